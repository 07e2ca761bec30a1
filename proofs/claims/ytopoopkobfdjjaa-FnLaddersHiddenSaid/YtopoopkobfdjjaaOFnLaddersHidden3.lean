/- The law FnLaddersHidden is proved: a call of it returns true and leaves its arguments as they were; and what this needs. Every input that the given rows speak of; nothing else is asked. -/
import Derived.Test.YtopoopkobfdjjaaOFnLaddersHidden0
import Derived.Test.YtopoopkobfdjjaaOFnLaddersHidden2
import Derived.Test.YtopoopkobfdjjaaOFnLaddersHidden1
namespace Go.Proofs.Ytopoopkobfdjjaa.P
open Go.RowKit Go.Proofs.YtopoopkobfdjjaaW.PrintWords Go.Proofs.YtopoopkobfdjjaaW.PrintLast Go.Proofs.YtopoopkobfdjjaaW.PrintMore
set_option linter.unusedVariables false
theorem zO3_0 {p : Prop} (h : p := by first | exact Kd.own_blk (Kd.R_away HO_684001.out (fun _ hk => hk)) | (rw [add_block]; exact Kd.own_blk (Kd.R_away HO_684001.out (fun _ hk => hk))) | (show (Addr.add _ _).block ≠ _; rw [add_block]; exact Kd.own_blk (Kd.R_away HO_684001.out (fun _ hk => hk))) | (dsimp only; exact Kd.own_blk (Kd.R_away HO_684001.out (fun _ hk => hk)))) : p := h
theorem zO3_1 {p : Prop} (h : p := by (with_reducible repeat (first | apply Kd.R_alloc | apply Kd.R_drewN | apply Kd.R_drew)); exact Kd.R_mono HO634.out (fun _ hk => ⟨hk.1.2, hk.2⟩)) : p := h
theorem zO3_2 {p : Prop} (h : p := by (with_reducible repeat (first | apply Kd.R_alloc | apply Kd.R_drewN | apply Kd.R_drew)); exact Kd.R_mono HO634.out (fun _ hk => ⟨hk.2, hk.1⟩)) : p := h
theorem zO3_3 {p : Prop} (h : p := by (try simp only [List.map_toArray, List.map_cons, List.map_nil]); first | done | rfl | (simp only [List.length_drop, List.length_take]; rfl)) : p := h
theorem zO3_4 {p : Prop} (h : p := by (with_reducible repeat (first | apply Kd.R_alloc | apply Kd.R_drewN | apply Kd.R_drew)); exact Kd.R_mono HO681.out (fun _ hk => hk.2)) : p := h
theorem zO3_5 {p : Prop} (h : p := by simp only [putAll, Act.put, List.setIfInBounds_toArray, List.set_cons_zero, List.set_cons_succ]) : p := h
end Go.Proofs.Ytopoopkobfdjjaa.P
namespace Go.Proofs.Ytopoopkobfdjjaa.P
open Go.RowKit Go.Proofs.YtopoopkobfdjjaaW.PrintWords Go.Proofs.YtopoopkobfdjjaaW.PrintLast Go.Proofs.YtopoopkobfdjjaaW.PrintMore
attribute [local go_sem] max2_int min2_int max_two min_two max_three min_three max_four min_four   -- for this text's walks alone
set_option linter.unusedVariables false
set_option linter.unusedSimpArgs false

/-! ### spec_AddClue: function 23 -/
def spec_AddClue.f (k : Nat) (a0_0 : Int) (l0_1 : List (S39)) (a1_0 : Int) (a1_1 : Int) (a1_2 : Int) : Option (Int × (List (S39)) × Bool) := (spec_pzGood.f k a0_0 l0_1).bind fun t624 => (if t624 = true then ((spec_pzClue.f k a1_0 a1_1 a1_2).bind fun t625 => (if t625 = true then (if (l0_1.length : Int) = 6 then (some (0, ([] : List (S39)), false)) else ((some (([] : List (S39)) : List (S39))).bind fun y626 => (if y626.length + l0_1.length < 5864062014805 then ((some (y626 ++ l0_1 : List (S39))).bind fun y629 => ((some (([(⟨a1_0, a1_1, a1_2⟩ : S39)] : List (S39)) : List (S39))).bind fun y632 => (if y629.length + y632.length < 5864062014805 then (some (a0_0, (y629 ++ y632), true)) else (none)))) else (none)))) else (some (0, ([] : List (S39)), false)))) else (some (0, ([] : List (S39)), false)))
def spec_AddClue.T3 : Bool × List (List Nat × List Nat) := (true, [([], []), ([0], [0]), ([], []), ([], []), ([3], [3]), ([2, 4], [2, 4]), ([], []), ([6], [6]), ([5, 7, 5], [5, 7]), ([1, 8], [1, 8]), ([9, 8, 0, 1, 2, 3, 4, 5, 6, 7, 8, 9], [9]), ([10, 0, 1, 2, 3, 4, 5, 6, 7, 8, 9, 10], [])])
def spec_AddClue.B3 : List Nat := [0, 1, 0, 0, 8, 28, 0, 64, 252, 511, 1023, 2047]
theorem spec_AddClue.tab3 : rtab .any (opsOf Try.f23 3) = spec_AddClue.T3 := by kernel_rfl
theorem spec_AddClue.bits3 : waitsOk spec_AddClue.T3.2 spec_AddClue.B3 = true := by kernel_rfl
set_option maxHeartbeats 8000000 in
set_option maxRecDepth 100000 in
theorem spec_AddClue.calls (k : Nat) (a0_0 : Int) (A0_1 : Option Addr) (c0_1 : Nat) (l0_1 : List (S39)) (a1_0 : Int) (a1_1 : Int) (a1_2 : Int) (r1 : Int) (r2 : List (S39)) (r3 : Bool) (w : World) (hr0_1 : Kd.C k39 w A0_1 l0_1.length l0_1) (hc0_1 : l0_1.length ≤ c0_1) (h : spec_AddClue.f k a0_0 l0_1 a1_0 a1_1 a1_2 = some (r1, r2, r3)) :
  Calls Try.prog 23 #[.agg #[.int .i64 a0_0, .slice A0_1 l0_1.length c0_1], .agg #[.int .i64 a1_0, .int .i64 a1_1, .int .i64 a1_2]] w fun e w' => ∃ v1_ : Value, e = .returned (.tuple #[.agg #[.int .i64 r1, v1_], .bool r3]) ∧ Kd.R k39 39 w' w.heap.size (fun _ => True) v1_ r2 ∧ Below w.heap.size w w' := by
 have hu30 := Try.underlying30; have hu39 := Try.underlying39; have HR0_1 := Aside0.mk hr0_1; have HC0_1 := Aside0.mk hc0_1; clear hr0_1 hc0_1
 have HB := Aside0.mk (Below.refl w.heap.size w)
 have H : ((spec_pzGood.f k a0_0 l0_1).bind fun t624 => (if t624 = true then ((spec_pzClue.f k a1_0 a1_1 a1_2).bind fun t625 => (if t625 = true then (if (l0_1.length : Int) = 6 then (some (0, ([] : List (S39)), false)) else ((some (([] : List (S39)) : List (S39))).bind fun y626 => (if y626.length + l0_1.length < 5864062014805 then ((some (y626 ++ l0_1 : List (S39))).bind fun y629 => ((some (([(⟨a1_0, a1_1, a1_2⟩ : S39)] : List (S39)) : List (S39))).bind fun y632 => (if y629.length + y632.length < 5864062014805 then (some (a0_0, (y629 ++ y632), true)) else (none)))) else (none)))) else (some (0, ([] : List (S39)), false)))) else (some (0, ([] : List (S39)), false)))) = some (r1, r2, r3) := h
 clear h; replace H := Option.bind_eq_some_iff.mp H; obtain ⟨t624, A30, H⟩ := H; (try dsimp only at H); have A3 := Aside0.mk A30; clear A30
 by_cases c4 : t624 = true
 ·subst c4
  rw [if_pos rfl] at H; replace H := Option.bind_eq_some_iff.mp H; obtain ⟨t625, A50, H⟩ := H; (try dsimp only at H); have A5 := Aside0.mk A50; clear A50
  by_cases c6 : t625 = true
  ·subst c6
   rw [if_pos rfl] at H
   by_cases c7 : (l0_1.length : Int) = 6
   ·rw [if_pos c7] at H
    have c7b0 : ((l0_1.length : Int) == 6) = true := beq_iff_eq.mpr c7
    have c7b1 : ((l0_1.length : Int) != 6) = false := bne_eq_false_iff_eq.mpr c7
    clear c7; simp only [Option.some.injEq, Prod.mk.injEq] at H; obtain ⟨rfl, rfl, rfl⟩ := H
    go_enter Try.func23, Try.ntmps23
    go_wp2_with (first | ((with_reducible refine gate_dst (N := 2) rfl ?_); (try (refine gate_guard (by rfl) ?_; dsimp only)); refine zE 2 #[.int .i64 a0_0, .slice A0_1 l0_1.length c0_1] 30 ?_; intro gb621 hg w8 hbox hb; have BK621 := Aside0.mk (hbox); have GW621 := zg HB hg; have GE621 := GW621; replace HB := zh HB hb; clear hb hbox hg) | ((with_reducible refine gate_dst (N := 3) rfl ?_); (try (refine gate_guard (by rfl) ?_; dsimp only)); refine zE 3 #[.int .i64 a1_0, .int .i64 a1_1, .int .i64 a1_2] 39 ?_; intro gb622 hg w9 hbox hb; have BK622 := Aside0.mk (hbox); have GW622 := zg HB hg; have GE622 := GW622; have NB621_622 := zl BK621 hg; have NB622_621 := zr BK621 hg; replace BK621 := zb BK621 hb; replace HB := zh HB hb; clear hb hbox hg) | ((with_reducible refine gate_dst (N := 4) rfl ?_); (try (refine gate_guard (by rfl) ?_; dsimp only)); refine zE 4 #[.int .i64 0, .slice none 0 0] 30 ?_; intro gb623 hg w10 hbox hb; have BK623 := Aside0.mk (hbox); have GW623 := zg HB hg; have GE623 := GW623; have NB621_623 := zl BK621 hg; have NB623_621 := zr BK621 hg; have NB622_623 := zl BK622 hg; have NB623_622 := zr BK622 hg; replace BK621 := zb BK621 hb; replace BK622 := zb BK622 hb; replace HB := zh HB hb; clear hb hbox hg; have hnb11 := NB621_622.out; have hnc11 := NB622_621.out; have hnb12 := NB621_623.out; have hnc12 := NB623_621.out; obtain ⟨_, _, _, _⟩ := zc2 BK621) | ((with_reducible refine gate_callee (f := 58) rfl ?_); refine zG (some 7) Try.func58 #[.agg #[.int .i64 a0_0, .slice A0_1 l0_1.length c0_1]] ?_; (with_reducible refine (spec_pzGood.calls k a0_0 _ _ l0_1 true _ ?side1 ?side2 A3.out).mono ?_); (case side1 => repeat (first | exact (Kd.C_below HR0_1.out HB.out) | (with_reducible refine Kd.C_alloc ?_ _) | (with_reducible refine Kd.C_drewN ?_ _) | (with_reducible refine Kd.C_drew ?_))); (case side2 => exact HC0_1.out); rintro e w14 ⟨rfl, hb⟩; refine ⟨_, rfl, ?_⟩; replace BK621 := zb BK621 hb; replace BK622 := zb BK622 hb; replace BK623 := zb BK623 hb; replace HB := zh HB hb; clear hb; have hnb15 := NB622_623.out; have hnc15 := NB623_622.out; obtain ⟨_, _, _, _, _, _⟩ := zc3 BK622) | (go_at_call 64; (with_reducible refine (spec_pzClue.calls k a1_0 a1_1 a1_2 true _ A5.out).mono ?_); rintro e w17 ⟨rfl, hb⟩; replace BK621 := zb BK621 hb; replace BK622 := zb BK622 hb; replace BK623 := zb BK623 hb; replace HB := zh HB hb; clear hb; obtain ⟨_, _, _, _⟩ := zc2 BK621; obtain ⟨_, _, _, _⟩ := zc2 BK623))
    refine bodyPost_ret (results_ct rfl _ _ gb623 30 #[.int .i64 0, .slice none 0 0] (0, 0) _ rfl (zw BK623) Try.underlying30 rfl (by kernel_rfl)) rfl ?_
    exact ⟨_, zt, by first | exact Kd.R_nil _ _ _ _ _ | exact Kd.N_nil _ _ _ _ _ | exact Kd.V_nil _ _ _ _ _ | exact Kd.Q_nil _ _ _ _ _ | exact Kd.S_nil _ _ _ _ _, zy HB⟩
   ·rw [if_neg c7] at H
    have c7b0 : ((l0_1.length : Int) == 6) = false := beq_eq_false_iff_ne.mpr c7
    have c7b1 : ((l0_1.length : Int) != 6) = true := bne_iff_ne.mpr c7
    obtain ⟨y626, hy626⟩ : ∃ y_ : List (S39), y_ = (([] : List (S39))) := ⟨_, rfl⟩
    replace H : (if y626.length + l0_1.length < 5864062014805 then ((some (y626 ++ l0_1 : List (S39))).bind fun y629 => ((some (([(⟨a1_0, a1_1, a1_2⟩ : S39)] : List (S39)) : List (S39))).bind fun y632 => (if y629.length + y632.length < 5864062014805 then (some (a0_0, (y629 ++ y632), true)) else (none)))) else (none)) = some (r1, r2, r3) := by first | (rw [hy626]; with_reducible exact H) | (have H2_ := (Option.bind_some _ _).symm.trans H; rw [hy626]; with_reducible exact H2_) | (have H2_ := (Option.bind_some _ _).symm.trans H; with_reducible exact H2_) | with_reducible exact H | (rw [hy626]; exact H) | exact H
    have Ny626 := Aside0.mk hy626; clear hy626
    by_cases c20 : y626.length + l0_1.length < 5864062014805
    ·rw [if_pos c20] at H
     have LMc20 := Aside0.mk c20; clear c20
     obtain ⟨y629, hy629⟩ : ∃ y_ : List (S39), y_ = (y626 ++ l0_1) := ⟨_, rfl⟩
     replace H : ((some (([(⟨a1_0, a1_1, a1_2⟩ : S39)] : List (S39)) : List (S39))).bind fun y632 => (if y629.length + y632.length < 5864062014805 then (some (a0_0, (y629 ++ y632), true)) else (none))) = some (r1, r2, r3) := by first | (rw [hy629]; with_reducible exact H) | (have H2_ := (Option.bind_some _ _).symm.trans H; rw [hy629]; with_reducible exact H2_) | (have H2_ := (Option.bind_some _ _).symm.trans H; with_reducible exact H2_) | with_reducible exact H | (rw [hy629]; exact H) | exact H
     have Ny629 := Aside0.mk hy629; clear hy629
     obtain ⟨y632, hy632⟩ : ∃ y_ : List (S39), y_ = (([(⟨a1_0, a1_1, a1_2⟩ : S39)] : List (S39))) := ⟨_, rfl⟩
     replace H : (if y629.length + y632.length < 5864062014805 then (some (a0_0, (y629 ++ y632), true)) else (none)) = some (r1, r2, r3) := by first | (rw [hy632]; with_reducible exact H) | (have H2_ := (Option.bind_some _ _).symm.trans H; rw [hy632]; with_reducible exact H2_) | (have H2_ := (Option.bind_some _ _).symm.trans H; with_reducible exact H2_) | with_reducible exact H | (rw [hy632]; exact H) | exact H
     have Ny632 := Aside0.mk hy632; clear hy632
     by_cases c21 : y629.length + y632.length < 5864062014805
     ·rw [if_pos c21] at H
      have LMc21 := Aside0.mk c21; clear c21
      obtain ⟨y635, hy635⟩ : ∃ y_ : List (S39), y_ = (y629 ++ y632) := ⟨_, rfl⟩
      replace H : (some (a0_0, y635, true)) = some (r1, r2, r3) := by first | (rw [hy635]; with_reducible exact H) | (have H2_ := (Option.bind_some _ _).symm.trans H; rw [hy635]; with_reducible exact H2_) | (have H2_ := (Option.bind_some _ _).symm.trans H; with_reducible exact H2_) | with_reducible exact H | (rw [hy635]; exact H) | exact H
      have Ny635 := Aside0.mk hy635; clear hy635; simp only [Option.some.injEq, Prod.mk.injEq] at H; obtain ⟨rfl, rfl, rfl⟩ := H
      go_enter Try.func23, Try.ntmps23
      try go_wp2_with (first | ((with_reducible refine gate_dst (N := 2) rfl ?_); (try (refine gate_guard (by rfl) ?_; dsimp only)); refine zE 2 #[.int .i64 a0_0, .slice A0_1 l0_1.length c0_1] 30 ?_; intro gb621 hg w22 hbox hb; have BK621 := Aside0.mk (hbox); have GW621 := zg HB hg; have GE621 := GW621; replace HB := zh HB hb; clear hb hbox hg) | ((with_reducible refine gate_dst (N := 3) rfl ?_); (try (refine gate_guard (by rfl) ?_; dsimp only)); refine zE 3 #[.int .i64 a1_0, .int .i64 a1_1, .int .i64 a1_2] 39 ?_; intro gb622 hg w23 hbox hb; have BK622 := Aside0.mk (hbox); have GW622 := zg HB hg; have GE622 := GW622; have NB621_622 := zl BK621 hg; have NB622_621 := zr BK621 hg; replace BK621 := zb BK621 hb; replace HB := zh HB hb; clear hb hbox hg) | ((with_reducible refine gate_dst (N := 4) rfl ?_); (try (refine gate_guard (by rfl) ?_; dsimp only)); refine zE 4 #[.int .i64 0, .slice none 0 0] 30 ?_; intro gb623 hg w24 hbox hb; have BK623 := Aside0.mk (hbox); have GW623 := zg HB hg; have GE623 := GW623; have NB621_623 := zl BK621 hg; have NB623_621 := zr BK621 hg; have NB622_623 := zl BK622 hg; have NB623_622 := zr BK622 hg; replace BK621 := zb BK621 hb; replace BK622 := zb BK622 hb; replace HB := zh HB hb; clear hb hbox hg; have hnb25 := NB621_622.out; have hnc25 := NB622_621.out; have hnb26 := NB621_623.out; have hnc26 := NB623_621.out; obtain ⟨_, _, _, _⟩ := zc2 BK621) | ((with_reducible refine gate_callee (f := 58) rfl ?_); refine zG (some 7) Try.func58 #[.agg #[.int .i64 a0_0, .slice A0_1 l0_1.length c0_1]] ?_; (with_reducible refine (spec_pzGood.calls k a0_0 _ _ l0_1 true _ ?side1 ?side2 A3.out).mono ?_); (case side1 => repeat (first | exact (Kd.C_below HR0_1.out HB.out) | (with_reducible refine Kd.C_alloc ?_ _) | (with_reducible refine Kd.C_drewN ?_ _) | (with_reducible refine Kd.C_drew ?_))); (case side2 => exact HC0_1.out); rintro e w28 ⟨rfl, hb⟩; refine ⟨_, rfl, ?_⟩; replace BK621 := zb BK621 hb; replace BK622 := zb BK622 hb; replace BK623 := zb BK623 hb; replace HB := zh HB hb; clear hb; have hnb29 := NB622_623.out; have hnc29 := NB623_622.out; obtain ⟨_, _, _, _, _, _⟩ := zc3 BK622) | (go_at_call 64; (with_reducible refine (spec_pzClue.calls k a1_0 a1_1 a1_2 true _ A5.out).mono ?_); rintro e w31 ⟨rfl, hb⟩; replace BK621 := zb BK621 hb; replace BK622 := zb BK622 hb; replace BK623 := zb BK623 hb; replace HB := zh HB hb; clear hb; obtain ⟨_, _, _, _⟩ := zc2 BK621))
      replace BK621 := Aside0.mk (blk_drew BK621.out); replace BK622 := Aside0.mk (blk_drew BK622.out); replace BK623 := Aside0.mk (blk_drew BK623.out); replace HB := Aside0.mk (below_drew1 HB.out)
      refine start_ (n := 12) (S := fun w' => w'.cell? ⟨gb621, 0, none⟩ = some (.int .i64 a0_0) ∧ w'.cell? ⟨gb621, 1, none⟩ = some (.slice A0_1 l0_1.length c0_1) ∧ w'.cell? ⟨gb622, 0, none⟩ = some (.int .i64 a1_0) ∧ w'.cell? ⟨gb622, 1, none⟩ = some (.int .i64 a1_1) ∧ w'.cell? ⟨gb622, 2, none⟩ = some (.int .i64 a1_2)) (ds := []) #[false, false, false, false, false, false, false, false, false, false, false, false] (by kernel_rfl) rfl rfl ⟨(blk_cell BK621.out 0).trans rfl, (blk_cell BK621.out 1).trans rfl, (blk_cell BK622.out 0).trans rfl, (blk_cell BK622.out 1).trans rfl, (blk_cell BK622.out 2).trans rfl⟩ (fun hHeld => ?_); refine with_tabW spec_AddClue.tab3 spec_AddClue.bits3 (fun HT_ HW_ => ?_)
      generalize w31.drew = w33 at BK621 BK622 BK623 HB hHeld ⊢
      refine zA 0 21 HT_ ?_
      refine zA 3 24 HT_ ?_
      refine zT 1 22 HT_ HW_ hHeld ?_
      refine zT 4 25 HT_ HW_ hHeld ?_
      refine zT 6 27 HT_ HW_ hHeld ?_
      refine join_ (σ := Value × Value × Value) 4 #[true, true, true, true, true, true, true, true, false, false, false, false] (fun s_ => [(23, s_.1), (26, s_.2.1), (28, s_.2.2)]) (fun s_ w' => (w'.cell? ⟨gb621, 0, none⟩ = some (.int .i64 a0_0) ∧ w'.cell? ⟨gb621, 1, none⟩ = some (.slice A0_1 l0_1.length c0_1) ∧ w'.cell? ⟨gb622, 0, none⟩ = some (.int .i64 a1_0) ∧ w'.cell? ⟨gb622, 1, none⟩ = some (.int .i64 a1_1) ∧ w'.cell? ⟨gb622, 2, none⟩ = some (.int .i64 a1_2)) ∧ (Kd.R k39 39 w' w.heap.size (fun k_ => some k_ ≠ (s_.2.2 : Value).ownBlock ∧ k_ ≠ gb622) s_.2.1 y629) ∧ (Kd.R k39 39 w' w.heap.size (fun k_ => some k_ ≠ (s_.2.1 : Value).ownBlock ∧ k_ ≠ gb622) s_.2.2 y632) ∧ (w'.heap[gb621]? = some (.cells #[.int .i64 a0_0, .slice A0_1 l0_1.length c0_1] 30 (0, 0))) ∧ (w'.heap[gb622]? = some (.cells #[.int .i64 a1_0, .int .i64 a1_1, .int .i64 a1_2] 39 (0, 0))) ∧ (w'.heap[gb623]? = some (.cells #[.int .i64 0, .slice none 0 0] 30 (0, 0))) ∧ (Below w.heap.size w w')) ?_ ?_
      rotate_left
      ·intro hCont
       refine two_ (i := 2) (j := 7) (Ni := some 23) (Nj := some 28) #[true, true, true, true, true, false, true, false, false, false, false, false] #[true, true, false, true, true, false, true, true, false, false, false, false] rfl rfl rfl rfl (two_of HT_.out (by kernel_rfl)) (by decide) (by decide) (fun K hK => ?_) (fun K hK => ?_)
       ·skip
        refine Kd.R_lit_step k39 _ 39 ?hg (N := 23) ?hd (xs := ([] : List (S39))) (inner := []) (ok := fun _ => True) (okp := fun _ => True) ?hr ?hp (fun _ hk => hk) trivial (Below.refl _ _) (Nat.le_refl _) (by simp) ?_; (case hd => rfl); (case hg => rfl); (case hr => first | (go_simp; done) | (go_simp; rfl)); (case hp => exact (Reps.none _ _))
        intro v627 w34 ho35 hb hg_ hnew_
        clear hg_ hnew_
        (first | rw [← Ny626.out] at ho35 | (simp only [Int.reduceToNat] at ho35; rw [← Ny626.out] at ho35))
        have HO628 := Aside0.mk (Kd.R_lower (Kd.R_newB ho35 (zq BK622)) (below_size (zy HB)))
        replace BK621 := zb BK621 hb; replace BK622 := zb BK622 hb; replace BK623 := zb BK623 hb; replace HB := zh HB hb; clear hb ho35
        refine hK.out _ _ ⟨(blk_cell BK621.out 0).trans rfl, (blk_cell BK621.out 1).trans rfl, (blk_cell BK622.out 0).trans rfl, (blk_cell BK622.out 1).trans rfl, (blk_cell BK622.out 2).trans rfl⟩ (fun hHeld => ?_)
        clear hK K
        refine zN 23 ?_
        refine two_ (i := 5) (j := 7) (Ni := some 26) (Nj := some 28) #[true, true, true, true, true, true, true, false, false, false, false, false] #[true, true, true, true, true, false, true, true, false, false, false, false] rfl rfl rfl rfl (two_of HT_.out (by kernel_rfl)) (by decide) (by decide) (fun K hK => ?_) (fun K hK => ?_)
        ·skip
         refine Kd.R_append_rows_step k39 (w0 := w) w.heap.size (by rfl) (.tmp 23) (.tmp 25) 28 39 (.agg #[(.int .i64 0), (.int .i64 0), (.int .i64 0)]) 24 rfl Try.underlying28 info39 rfl (by decide) (by omega) v627 y626 l0_1 _ _ _ (fun k_ => k_ ≠ gb622) (fun _ => False) rfl rfl ?aO ?aR (fun _ _ h => h) (fun _ h => h.elim) ?aF ?aB ?aS ?aL ?_
         (case aR => repeat (first | exact (Kd.C_below HR0_1.out HB.out) | (with_reducible refine Kd.C_alloc ?_ _) | (with_reducible refine Kd.C_drewN ?_ _) | (with_reducible refine Kd.C_drew ?_)))
         (case aB => exact (zy HB))
         (case aF => exact (fun k_ hk => Kd.freshB (zq BK622) k_ hk))
         (case aO => exact (by (with_reducible repeat (first | apply Kd.R_alloc | apply Kd.R_drewN | apply Kd.R_drew)); exact Kd.R_mono HO628.out (fun _ hk => hk.2)))
         (case aS => exact (below_size (zy HB)))
         (case aL => have := LMc20.out; omega)
         intro v630 w36 ho hb hg hat
         rw [← Ny629.out] at ho
         have n0_ := Aside0.mk (blk_grown (zq BK621) hg (Kd.R_ne HO628.out BK621.out (by decide)))
         have n1_ := Aside0.mk (blk_grown (zq BK622) hg (Kd.R_away HO628.out (fun _ hk => hk.2)))
         have n2_ := Aside0.mk (blk_grown (zq BK623) hg (Kd.R_ne HO628.out BK623.out (by decide)))
         have HO631 := Aside0.mk (ho)
         replace HB := Aside0.mk hb
         clear HO628; clear BK621; have BK621 := n0_; clear n0_; clear BK622; have BK622 := n1_; clear n1_; clear BK623; have BK623 := n2_; clear n2_; clear ho hb hg hat
         refine hK.out _ _ ⟨(blk_cell BK621.out 0).trans rfl, (blk_cell BK621.out 1).trans rfl, (blk_cell BK622.out 0).trans rfl, (blk_cell BK622.out 1).trans rfl, (blk_cell BK622.out 2).trans rfl⟩ (fun hHeld => ?_)
         clear hK K
         refine zN 26 ?_
         refine zO 7 (some 28) HT_ (fun K hK => ?_)
         refine Kd.R_lit_step k39 _ 39 ?hg (N := 28) ?hd (xs := ([(⟨a1_0, a1_1, a1_2⟩ : S39)] : List (S39))) (inner := [.int .i64 a1_0, .int .i64 a1_1, .int .i64 a1_2]) (ok := fun _ => True) (okp := fun _ => True) ?hr ?hp (fun _ hk => hk) trivial (Below.refl _ _) (Nat.le_refl _) (by simp) ?_; (case hd => rfl); (case hg => rfl); (case hr => first | (go_simp; done) | (go_simp; rfl)); (case hp => exact (Reps.c3 (show Kd.M k39 _ _ _ (⟨a1_0, a1_1, a1_2⟩ : S39) [.int .i64 a1_0, .int .i64 a1_1, .int .i64 a1_2] from (k39_mkM _ _ _ (⟨a1_0, a1_1, a1_2⟩ : S39) )) (Reps.none _ _)))
         intro v633 w37 ho38 hb hg_ hnew_
         clear hg_ hnew_
         (first | rw [← Ny632.out] at ho38 | (simp only [Int.reduceToNat] at ho38; rw [← Ny632.out] at ho38))
         have n0_ := Aside0.mk (Kd.R_elder' (zs HO631) (Kd.R_base ho38) hb)
         have HO634 := Aside0.mk (Kd.R_lower (Kd.R_newB (Kd.R_new' ho38 (Kd.R_lt (zs HO631))) (zq BK622)) (below_size (zy HB)))
         replace BK621 := zb BK621 hb; replace BK622 := zb BK622 hb; replace BK623 := zb BK623 hb; replace HB := zh HB hb; clear HO631; have HO631 := n0_; clear n0_; clear hb ho38
         refine hK.out _ _ ⟨(blk_cell BK621.out 0).trans rfl, (blk_cell BK621.out 1).trans rfl, (blk_cell BK622.out 0).trans rfl, (blk_cell BK622.out 1).trans rfl, (blk_cell BK622.out 2).trans rfl⟩ (fun hHeld => ?_)
         clear hK K
         refine zN 28 ?_
         exact norm_ zO3_5 (hCont (v627, v630, v633) _ ⟨hHeld, (by (with_reducible repeat (first | apply Kd.R_alloc | apply Kd.R_drewN | apply Kd.R_drew)); exact Kd.R_mono HO631.out (fun _ hk => ⟨hk.2, hk.1⟩)), zO3_1, (zq BK621), (zq BK622), (zq BK623), (zy HB)⟩)
        ·skip
         refine Kd.R_lit_step k39 _ 39 ?hg (N := 28) ?hd (xs := ([(⟨a1_0, a1_1, a1_2⟩ : S39)] : List (S39))) (inner := [.int .i64 a1_0, .int .i64 a1_1, .int .i64 a1_2]) (ok := fun _ => True) (okp := fun _ => True) ?hr ?hp (fun _ hk => hk) trivial (Below.refl _ _) (Nat.le_refl _) (by simp) ?_; (case hd => rfl); (case hg => rfl); (case hr => first | (go_simp; done) | (go_simp; rfl)); (case hp => exact (Reps.c3 (show Kd.M k39 _ _ _ (⟨a1_0, a1_1, a1_2⟩ : S39) [.int .i64 a1_0, .int .i64 a1_1, .int .i64 a1_2] from (k39_mkM _ _ _ (⟨a1_0, a1_1, a1_2⟩ : S39) )) (Reps.none _ _)))
         intro v633 w36 ho37 hb hg_ hnew_
         clear hg_ hnew_
         (first | rw [← Ny632.out] at ho37 | (simp only [Int.reduceToNat] at ho37; rw [← Ny632.out] at ho37))
         have n0_ := Aside0.mk (Kd.R_elder' (zs HO628) (Kd.R_base ho37) hb)
         have HO634 := Aside0.mk (Kd.R_lower (Kd.R_newB (Kd.R_new' ho37 (Kd.R_lt (zs HO628))) (zq BK622)) (below_size (zy HB)))
         replace BK621 := zb BK621 hb; replace BK622 := zb BK622 hb; replace BK623 := zb BK623 hb; replace HB := zh HB hb; clear HO628; have HO628 := n0_; clear n0_; clear hb ho37
         refine hK.out _ _ ⟨(blk_cell BK621.out 0).trans rfl, (blk_cell BK621.out 1).trans rfl, (blk_cell BK622.out 0).trans rfl, (blk_cell BK622.out 1).trans rfl, (blk_cell BK622.out 2).trans rfl⟩ (fun hHeld => ?_)
         clear hK K
         refine zN 28 ?_
         refine zO 5 (some 26) HT_ (fun K hK => ?_)
         refine Kd.R_append_rows_step k39 (w0 := w) w.heap.size (by rfl) (.tmp 23) (.tmp 25) 28 39 (.agg #[(.int .i64 0), (.int .i64 0), (.int .i64 0)]) 24 rfl Try.underlying28 info39 rfl (by decide) (by omega) v627 y626 l0_1 _ _ _ (fun k_ => some k_ ≠ (v633 : Value).ownBlock ∧ k_ ≠ gb622) (fun _ => False) rfl rfl ?aO ?aR (fun _ _ h => h) (fun _ h => h.elim) ?aF ?aB ?aS ?aL ?_
         (case aR => repeat (first | exact (Kd.C_below HR0_1.out HB.out) | (with_reducible refine Kd.C_alloc ?_ _) | (with_reducible refine Kd.C_drewN ?_ _) | (with_reducible refine Kd.C_drew ?_)))
         (case aB => exact (zy HB))
         (case aF => exact (fun k_ hk => ⟨Kd.fresh' (Kd.R_lt (zs HO634)) k_ hk, Kd.freshB (zq BK622) k_ hk⟩))
         (case aO => exact (by (with_reducible repeat (first | apply Kd.R_alloc | apply Kd.R_drewN | apply Kd.R_drew)); exact Kd.R_mono HO628.out (fun _ hk => ⟨hk.2, hk.1.2⟩)))
         (case aS => exact (below_size (zy HB)))
         (case aL => have := LMc20.out; omega)
         intro v630 w38 ho hb hg hat
         rw [← Ny629.out] at ho
         have n0_ := Aside0.mk (blk_grown (zq BK621) hg (Kd.R_ne HO628.out BK621.out (by decide)))
         have n1_ := Aside0.mk (blk_grown (zq BK622) hg (Kd.R_away HO628.out (fun _ hk => hk.1.2)))
         have n2_ := Aside0.mk (blk_grown (zq BK623) hg (Kd.R_ne HO628.out BK623.out (by decide)))
         have n3_ := Aside0.mk (Kd.R_after (ok := (fun k_ => k_ ≠ gb622)) (by (with_reducible repeat (first | apply Kd.R_alloc | apply Kd.R_drewN | apply Kd.R_drew)); exact Kd.R_mono HO634.out (fun _ hk => ⟨hk.2, hk.1.2⟩)) hg hat)
         have HO631 := Aside0.mk (ho)
         replace HB := Aside0.mk hb
         clear HO628; clear BK621; have BK621 := n0_; clear n0_; clear BK622; have BK622 := n1_; clear n1_; clear BK623; have BK623 := n2_; clear n2_; clear HO634; have HO634 := n3_; clear n3_; clear ho hb hg hat
         refine hK.out _ _ ⟨(blk_cell BK621.out 0).trans rfl, (blk_cell BK621.out 1).trans rfl, (blk_cell BK622.out 0).trans rfl, (blk_cell BK622.out 1).trans rfl, (blk_cell BK622.out 2).trans rfl⟩ (fun hHeld => ?_)
         clear hK K
         refine zN 26 ?_
         exact norm_ zO3_5 (hCont (v627, v630, v633) _ ⟨hHeld, (zs HO631), zO3_2, (zq BK621), (zq BK622), (zq BK623), (zy HB)⟩)
       ·skip
        refine Kd.R_lit_step k39 _ 39 ?hg (N := 28) ?hd (xs := ([(⟨a1_0, a1_1, a1_2⟩ : S39)] : List (S39))) (inner := [.int .i64 a1_0, .int .i64 a1_1, .int .i64 a1_2]) (ok := fun _ => True) (okp := fun _ => True) ?hr ?hp (fun _ hk => hk) trivial (Below.refl _ _) (Nat.le_refl _) (by simp) ?_; (case hd => rfl); (case hg => rfl); (case hr => first | (go_simp; done) | (go_simp; rfl)); (case hp => exact (Reps.c3 (show Kd.M k39 _ _ _ (⟨a1_0, a1_1, a1_2⟩ : S39) [.int .i64 a1_0, .int .i64 a1_1, .int .i64 a1_2] from (k39_mkM _ _ _ (⟨a1_0, a1_1, a1_2⟩ : S39) )) (Reps.none _ _)))
        intro v633 w34 ho35 hb hg_ hnew_
        clear hg_ hnew_
        (first | rw [← Ny632.out] at ho35 | (simp only [Int.reduceToNat] at ho35; rw [← Ny632.out] at ho35))
        have HO634 := Aside0.mk (Kd.R_lower (Kd.R_newB ho35 (zq BK622)) (below_size (zy HB)))
        replace BK621 := zb BK621 hb; replace BK622 := zb BK622 hb; replace BK623 := zb BK623 hb; replace HB := zh HB hb; clear hb ho35
        refine hK.out _ _ ⟨(blk_cell BK621.out 0).trans rfl, (blk_cell BK621.out 1).trans rfl, (blk_cell BK622.out 0).trans rfl, (blk_cell BK622.out 1).trans rfl, (blk_cell BK622.out 2).trans rfl⟩ (fun hHeld => ?_)
        clear hK K
        refine zN 28 ?_
        refine zO 2 (some 23) HT_ (fun K hK => ?_)
        refine Kd.R_lit_step k39 _ 39 ?hg (N := 23) ?hd (xs := ([] : List (S39))) (inner := []) (ok := fun _ => True) (okp := fun _ => True) ?hr ?hp (fun _ hk => hk) trivial (Below.refl _ _) (Nat.le_refl _) (by simp) ?_; (case hd => rfl); (case hg => rfl); (case hr => first | (go_simp; done) | (go_simp; rfl)); (case hp => exact (Reps.none _ _))
        intro v627 w36 ho37 hb hg_ hnew_
        clear hg_ hnew_
        (first | rw [← Ny626.out] at ho37 | (simp only [Int.reduceToNat] at ho37; rw [← Ny626.out] at ho37))
        have n0_ := Aside0.mk (Kd.R_elder' (zs HO634) (Kd.R_base ho37) hb)
        have HO628 := Aside0.mk (Kd.R_lower (Kd.R_newB (Kd.R_new' ho37 (Kd.R_lt (zs HO634))) (zq BK622)) (below_size (zy HB)))
        replace BK621 := zb BK621 hb; replace BK622 := zb BK622 hb; replace BK623 := zb BK623 hb; replace HB := zh HB hb; clear HO634; have HO634 := n0_; clear n0_; clear hb ho37
        refine hK.out _ _ ⟨(blk_cell BK621.out 0).trans rfl, (blk_cell BK621.out 1).trans rfl, (blk_cell BK622.out 0).trans rfl, (blk_cell BK622.out 1).trans rfl, (blk_cell BK622.out 2).trans rfl⟩ (fun hHeld => ?_)
        clear hK K
        refine zN 23 ?_
        refine zO 5 (some 26) HT_ (fun K hK => ?_)
        refine Kd.R_append_rows_step k39 (w0 := w) w.heap.size (by rfl) (.tmp 23) (.tmp 25) 28 39 (.agg #[(.int .i64 0), (.int .i64 0), (.int .i64 0)]) 24 rfl Try.underlying28 info39 rfl (by decide) (by omega) v627 y626 l0_1 _ _ _ (fun k_ => some k_ ≠ (v633 : Value).ownBlock ∧ k_ ≠ gb622) (fun _ => False) rfl rfl ?aO ?aR (fun _ _ h => h) (fun _ h => h.elim) ?aF ?aB ?aS ?aL ?_
        (case aR => repeat (first | exact (Kd.C_below HR0_1.out HB.out) | (with_reducible refine Kd.C_alloc ?_ _) | (with_reducible refine Kd.C_drewN ?_ _) | (with_reducible refine Kd.C_drew ?_)))
        (case aB => exact (zy HB))
        (case aF => exact (fun k_ hk => ⟨Kd.fresh' (Kd.R_lt (zs HO634)) k_ hk, Kd.freshB (zq BK622) k_ hk⟩))
        (case aO => exact (by (with_reducible repeat (first | apply Kd.R_alloc | apply Kd.R_drewN | apply Kd.R_drew)); exact Kd.R_mono HO628.out (fun _ hk => ⟨hk.1.2, hk.2⟩)))
        (case aS => exact (below_size (zy HB)))
        (case aL => have := LMc20.out; omega)
        intro v630 w38 ho hb hg hat
        rw [← Ny629.out] at ho
        have n0_ := Aside0.mk (blk_grown (zq BK621) hg (Kd.R_ne HO628.out BK621.out (by decide)))
        have n1_ := Aside0.mk (blk_grown (zq BK622) hg (Kd.R_away HO628.out (fun _ hk => hk.2)))
        have n2_ := Aside0.mk (blk_grown (zq BK623) hg (Kd.R_ne HO628.out BK623.out (by decide)))
        have n3_ := Aside0.mk (Kd.R_after (ok := (fun k_ => k_ ≠ gb622)) zO3_1 hg hat)
        have HO631 := Aside0.mk (ho)
        replace HB := Aside0.mk hb
        clear HO628; clear BK621; have BK621 := n0_; clear n0_; clear BK622; have BK622 := n1_; clear n1_; clear BK623; have BK623 := n2_; clear n2_; clear HO634; have HO634 := n3_; clear n3_; clear ho hb hg hat
        refine hK.out _ _ ⟨(blk_cell BK621.out 0).trans rfl, (blk_cell BK621.out 1).trans rfl, (blk_cell BK622.out 0).trans rfl, (blk_cell BK622.out 1).trans rfl, (blk_cell BK622.out 2).trans rfl⟩ (fun hHeld => ?_)
        clear hK K
        refine zN 26 ?_
        exact norm_ zO3_5 (hCont (v627, v630, v633) _ ⟨hHeld, (zs HO631), zO3_2, (zq BK621), (zq BK622), (zq BK623), (zy HB)⟩)
      rintro ⟨v627, v630, v633⟩ w39 ⟨hS_, h0_, h1_, h2_, h3_, h4_, h5_⟩
      have n0_ : Aside0 (Kd.R k39 39 w39 w.heap.size (fun k_ => some k_ ≠ (v633 : Value).ownBlock ∧ k_ ≠ gb622) v630 y629) := ⟨h0_⟩
      have n1_ : Aside0 (Kd.R k39 39 w39 w.heap.size (fun k_ => some k_ ≠ (v630 : Value).ownBlock ∧ k_ ≠ gb622) v633 y632) := ⟨h1_⟩
      have n2_ : Aside0 (w39.heap[gb621]? = some (.cells #[.int .i64 a0_0, .slice A0_1 l0_1.length c0_1] 30 (0, 0))) := ⟨h2_⟩
      have n3_ : Aside0 (w39.heap[gb622]? = some (.cells #[.int .i64 a1_0, .int .i64 a1_1, .int .i64 a1_2] 39 (0, 0))) := ⟨h3_⟩
      have n4_ : Aside0 (w39.heap[gb623]? = some (.cells #[.int .i64 0, .slice none 0 0] 30 (0, 0))) := ⟨h4_⟩
      have n5_ : Aside0 (Below w.heap.size w w39) := ⟨h5_⟩
      clear BK621; clear BK622; clear BK623; clear HB; clear h0_ h1_ h2_ h3_ h4_ h5_; have HO631 := n0_; have HO634 := n1_; have BK621 := n2_; have BK622 := n3_; have BK623 := n4_; have HB := n5_; clear n0_ n1_ n2_ n3_ n4_ n5_
      have hHeld : w39.cell? ⟨gb621, 0, none⟩ = some (.int .i64 a0_0) ∧ w39.cell? ⟨gb621, 1, none⟩ = some (.slice A0_1 l0_1.length c0_1) ∧ w39.cell? ⟨gb622, 0, none⟩ = some (.int .i64 a1_0) ∧ w39.cell? ⟨gb622, 1, none⟩ = some (.int .i64 a1_1) ∧ w39.cell? ⟨gb622, 2, none⟩ = some (.int .i64 a1_2) := hS_
      obtain ⟨Ao41, co41, eo41⟩ := Kd.R_slice HO634.out
      (first | subst eo41 | (injection eo41 with f1_ f2_ f3_; have f4_ := f1_.symm; have f5_ := f3_.symm; clear f1_ f2_ f3_; subst f4_; subst f5_))
      refine norm_ (a' := ?_) ?_ ?_
      rotate_left
      ·simp only [putAll, Act.put, List.setIfInBounds_toArray, List.set_cons_zero, List.set_cons_succ]
       rfl
      refine zO 8 (some 29) HT_ (fun K hK => ?_)
      refine Kd.R_append_rows_step k39 (w0 := w) w.heap.size (by rfl) (.tmp 26) (.tmp 28) 28 39 (.agg #[(.int .i64 0), (.int .i64 0), (.int .i64 0)]) 24 rfl Try.underlying28 info39 rfl (by decide) (by omega) v630 y629 y632 _ _ _ (fun k_ => some k_ ≠ (.slice Ao41 y632.length co41 : Value).ownBlock ∧ k_ ≠ gb622) (fun _ => False) rfl rfl ?aO ?aR (fun _ _ h => h) (fun _ h => h.elim) ?aF ?aB ?aS ?aL ?_
      (case aR => repeat (first | exact (Kd.R_reads' HO634.out).2.2 | (with_reducible refine Kd.C_alloc ?_ _) | (with_reducible refine Kd.C_drewN ?_ _) | (with_reducible refine Kd.C_drew ?_)))
      (case aB => exact (zy HB))
      (case aF => exact (fun k_ hk => ⟨Kd.fresh' (Kd.R_lt (zs HO634)) k_ hk, Kd.freshB (zq BK622) k_ hk⟩))
      (case aO => exact (zs HO631))
      (case aS => exact (below_size (zy HB)))
      (case aL => have := LMc21.out; omega)
      intro v636 w40 ho hb hg hat
      rw [← Ny635.out] at ho
      have n0_ := Aside0.mk (blk_grown (zq BK621) hg (Kd.R_ne HO631.out BK621.out (by decide)))
      have n1_ := Aside0.mk (blk_grown (zq BK622) hg (Kd.R_away HO631.out (fun _ hk => hk.2)))
      have n2_ := Aside0.mk (blk_grown (zq BK623) hg (Kd.R_ne HO631.out BK623.out (by decide)))
      have n3_ := Aside0.mk (Kd.R_after (ok := (fun k_ => k_ ≠ gb622)) zO3_2 hg hat)
      have HO637 := Aside0.mk (ho)
      replace HB := Aside0.mk hb
      clear HO631; clear BK621; have BK621 := n0_; clear n0_; clear BK622; have BK622 := n1_; clear n1_; clear BK623; have BK623 := n2_; clear n2_; clear HO634; have HO634 := n3_; clear n3_; clear ho hb hg hat
      obtain ⟨Ao42, co42, eo42⟩ := Kd.R_slice HO637.out
      (first | subst eo42 | (injection eo42 with f1_ f2_ f3_; have f4_ := f1_.symm; have f5_ := f3_.symm; clear f1_ f2_ f3_; subst f4_; subst f5_))
      refine hK.out _ _ ⟨(blk_cell BK621.out 0).trans rfl, (blk_cell BK621.out 1).trans rfl, (blk_cell BK622.out 0).trans rfl, (blk_cell BK622.out 1).trans rfl, (blk_cell BK622.out 2).trans rfl⟩ (fun hHeld => ?_)
      clear hK K
      refine zN 29 ?_
      refine zA 9 30 HT_ ?_
      refine zO 10 none HT_ (fun K hK => ?_)
      have hs43 : w40.cell? ⟨gb623, 0, none⟩ = some (.int .i64 0) := (blk_cell BK623.out 0).trans rfl
      have hfs43 := blk_frozen BK623.out 0
      have hns43_0 := NB621_623.out; have hns43_1 := NB622_623.out; have hms43_0 := NB623_621.out; have hms43_1 := NB623_622.out
      have hs44 : w40.cell? ⟨gb623, 1, none⟩ = some (.slice none 0 0) := (blk_cell BK623.out 1).trans rfl
      have hfs44 := blk_frozen BK623.out 1
      have hns44_0 := NB621_623.out; have hns44_1 := NB622_623.out; have hms44_0 := NB623_621.out; have hms44_1 := NB623_622.out
      refine skip_ (w1 := ?_) (by rfl) rfl ?_ ?_
      rotate_left
      ·go_simp
       rfl
      refine hK.out _ _ ⟨((cell_far (p := ⟨gb623, _, none⟩) NB621_623.out _).trans (((cell_far (p := ⟨gb623, _, none⟩) NB621_623.out _).trans (hHeld.1)))), ((cell_far (p := ⟨gb623, _, none⟩) NB621_623.out _).trans (((cell_far (p := ⟨gb623, _, none⟩) NB621_623.out _).trans (hHeld.2.1)))), ((cell_far (p := ⟨gb623, _, none⟩) NB622_623.out _).trans (((cell_far (p := ⟨gb623, _, none⟩) NB622_623.out _).trans (hHeld.2.2.1)))), ((cell_far (p := ⟨gb623, _, none⟩) NB622_623.out _).trans (((cell_far (p := ⟨gb623, _, none⟩) NB622_623.out _).trans (hHeld.2.2.2.1)))), ((cell_far (p := ⟨gb623, _, none⟩) NB622_623.out _).trans (((cell_far (p := ⟨gb623, _, none⟩) NB622_623.out _).trans (hHeld.2.2.2.2))))⟩ (fun hHeld => ?_)
      clear hK K
      refine zA 11 5 HT_ ?_
      refine done_ (done_of HT_.out (by kernel_rfl)) ?_
      try go_wp2
      refine bodyPost_ret (results_ct rfl _ _ gb623 30 #[.int .i64 a0_0, .slice Ao42 y635.length co42] (0, 0) _ rfl (zw BK623) Try.underlying30 rfl (by kernel_rfl)) rfl ?_
      exact ⟨_, zt, by (with_reducible repeat (first | apply Kd.R_alloc | apply Kd.R_drewN | apply Kd.R_drew)); exact Kd.R_mono (Kd.R_far (p := ⟨gb623, 1, none⟩) (Kd.R_far (p := ⟨gb623, 0, none⟩) (Kd.R_types HO637.out BK623.out (by decide)) (fun _ hk => hk.2) (.int .i64 a0_0)) (fun _ hk => hk.2) (.slice Ao42 y635.length co42)) (fun _ hk => trivial), zy HB⟩
     ·rw [if_neg c21] at H
      exact absurd H (by simp)
    ·rw [if_neg c20] at H
     exact absurd H (by simp)
  ·replace c6 := Bool.eq_false_iff.mpr c6
   subst c6; rw [if_neg (show ¬ (false = true) by decide)] at H; simp only [Option.some.injEq, Prod.mk.injEq] at H; obtain ⟨rfl, rfl, rfl⟩ := H
   go_enter Try.func23, Try.ntmps23
   go_wp2_with (first | ((with_reducible refine gate_dst (N := 2) rfl ?_); (try (refine gate_guard (by rfl) ?_; dsimp only)); refine zE 2 #[.int .i64 a0_0, .slice A0_1 l0_1.length c0_1] 30 ?_; intro gb621 hg w45 hbox hb; have BK621 := Aside0.mk (hbox); have GW621 := zg HB hg; have GE621 := GW621; replace HB := zh HB hb; clear hb hbox hg) | ((with_reducible refine gate_dst (N := 3) rfl ?_); (try (refine gate_guard (by rfl) ?_; dsimp only)); refine zE 3 #[.int .i64 a1_0, .int .i64 a1_1, .int .i64 a1_2] 39 ?_; intro gb622 hg w46 hbox hb; have BK622 := Aside0.mk (hbox); have GW622 := zg HB hg; have GE622 := GW622; have NB621_622 := zl BK621 hg; have NB622_621 := zr BK621 hg; replace BK621 := zb BK621 hb; replace HB := zh HB hb; clear hb hbox hg) | ((with_reducible refine gate_dst (N := 4) rfl ?_); (try (refine gate_guard (by rfl) ?_; dsimp only)); refine zE 4 #[.int .i64 0, .slice none 0 0] 30 ?_; intro gb623 hg w47 hbox hb; have BK623 := Aside0.mk (hbox); have GW623 := zg HB hg; have GE623 := GW623; have NB621_623 := zl BK621 hg; have NB623_621 := zr BK621 hg; have NB622_623 := zl BK622 hg; have NB623_622 := zr BK622 hg; replace BK621 := zb BK621 hb; replace BK622 := zb BK622 hb; replace HB := zh HB hb; clear hb hbox hg; have hnb48 := NB621_622.out; have hnc48 := NB622_621.out; have hnb49 := NB621_623.out; have hnc49 := NB623_621.out; obtain ⟨_, _, _, _⟩ := zc2 BK621) | ((with_reducible refine gate_callee (f := 58) rfl ?_); refine zG (some 7) Try.func58 #[.agg #[.int .i64 a0_0, .slice A0_1 l0_1.length c0_1]] ?_; (with_reducible refine (spec_pzGood.calls k a0_0 _ _ l0_1 true _ ?side1 ?side2 A3.out).mono ?_); (case side1 => repeat (first | exact (Kd.C_below HR0_1.out HB.out) | (with_reducible refine Kd.C_alloc ?_ _) | (with_reducible refine Kd.C_drewN ?_ _) | (with_reducible refine Kd.C_drew ?_))); (case side2 => exact HC0_1.out); rintro e w51 ⟨rfl, hb⟩; refine ⟨_, rfl, ?_⟩; replace BK621 := zb BK621 hb; replace BK622 := zb BK622 hb; replace BK623 := zb BK623 hb; replace HB := zh HB hb; clear hb; have hnb52 := NB622_623.out; have hnc52 := NB623_622.out; obtain ⟨_, _, _, _, _, _⟩ := zc3 BK622) | (go_at_call 64; (with_reducible refine (spec_pzClue.calls k a1_0 a1_1 a1_2 false _ A5.out).mono ?_); rintro e w54 ⟨rfl, hb⟩; replace BK621 := zb BK621 hb; replace BK622 := zb BK622 hb; replace BK623 := zb BK623 hb; replace HB := zh HB hb; clear hb; obtain ⟨_, _, _, _⟩ := zc2 BK623))
   refine bodyPost_ret (results_ct rfl _ _ gb623 30 #[.int .i64 0, .slice none 0 0] (0, 0) _ rfl (zw BK623) Try.underlying30 rfl (by kernel_rfl)) rfl ?_
   exact ⟨_, zt, by first | exact Kd.R_nil _ _ _ _ _ | exact Kd.N_nil _ _ _ _ _ | exact Kd.V_nil _ _ _ _ _ | exact Kd.Q_nil _ _ _ _ _ | exact Kd.S_nil _ _ _ _ _, zy HB⟩
 ·replace c4 := Bool.eq_false_iff.mpr c4
  subst c4; rw [if_neg (show ¬ (false = true) by decide)] at H; simp only [Option.some.injEq, Prod.mk.injEq] at H; obtain ⟨rfl, rfl, rfl⟩ := H
  go_enter Try.func23, Try.ntmps23
  go_wp2_with (first | ((with_reducible refine gate_dst (N := 2) rfl ?_); (try (refine gate_guard (by rfl) ?_; dsimp only)); refine zE 2 #[.int .i64 a0_0, .slice A0_1 l0_1.length c0_1] 30 ?_; intro gb621 hg w56 hbox hb; have BK621 := Aside0.mk (hbox); have GW621 := zg HB hg; have GE621 := GW621; replace HB := zh HB hb; clear hb hbox hg) | ((with_reducible refine gate_dst (N := 3) rfl ?_); (try (refine gate_guard (by rfl) ?_; dsimp only)); refine zE 3 #[.int .i64 a1_0, .int .i64 a1_1, .int .i64 a1_2] 39 ?_; intro gb622 hg w57 hbox hb; have BK622 := Aside0.mk (hbox); have GW622 := zg HB hg; have GE622 := GW622; have NB621_622 := zl BK621 hg; have NB622_621 := zr BK621 hg; replace BK621 := zb BK621 hb; replace HB := zh HB hb; clear hb hbox hg) | ((with_reducible refine gate_dst (N := 4) rfl ?_); (try (refine gate_guard (by rfl) ?_; dsimp only)); refine zE 4 #[.int .i64 0, .slice none 0 0] 30 ?_; intro gb623 hg w58 hbox hb; have BK623 := Aside0.mk (hbox); have GW623 := zg HB hg; have GE623 := GW623; have NB621_623 := zl BK621 hg; have NB623_621 := zr BK621 hg; have NB622_623 := zl BK622 hg; have NB623_622 := zr BK622 hg; replace BK621 := zb BK621 hb; replace BK622 := zb BK622 hb; replace HB := zh HB hb; clear hb hbox hg; have hnb59 := NB621_622.out; have hnc59 := NB622_621.out; have hnb60 := NB621_623.out; have hnc60 := NB623_621.out; obtain ⟨_, _, _, _⟩ := zc2 BK621) | ((with_reducible refine gate_callee (f := 58) rfl ?_); refine zG (some 7) Try.func58 #[.agg #[.int .i64 a0_0, .slice A0_1 l0_1.length c0_1]] ?_; (with_reducible refine (spec_pzGood.calls k a0_0 _ _ l0_1 false _ ?side1 ?side2 A3.out).mono ?_); (case side1 => repeat (first | exact (Kd.C_below HR0_1.out HB.out) | (with_reducible refine Kd.C_alloc ?_ _) | (with_reducible refine Kd.C_drewN ?_ _) | (with_reducible refine Kd.C_drew ?_))); (case side2 => exact HC0_1.out); rintro e w62 ⟨rfl, hb⟩; refine ⟨_, rfl, ?_⟩; replace BK621 := zb BK621 hb; replace BK622 := zb BK622 hb; replace BK623 := zb BK623 hb; replace HB := zh HB hb; clear hb; have hnb63 := NB623_622.out; have hnc63 := NB622_623.out; obtain ⟨_, _, _, _⟩ := zc2 BK623))
  refine bodyPost_ret (results_ct rfl _ _ gb623 30 #[.int .i64 0, .slice none 0 0] (0, 0) _ rfl (zw BK623) Try.underlying30 rfl (by kernel_rfl)) rfl ?_
  exact ⟨_, zt, by first | exact Kd.R_nil _ _ _ _ _ | exact Kd.N_nil _ _ _ _ _ | exact Kd.V_nil _ _ _ _ _ | exact Kd.Q_nil _ _ _ _ _ | exact Kd.S_nil _ _ _ _ _, zy HB⟩


/-! ### spec_DrawDropClue: function 24 -/
def spec_DrawDropClue.f (k : Nat) (l0 : List Int) : Option (Int × (List (S39)) × Int) := (spec_l1Cur_puzzle.f k l0 0 0).bind fun bt640 => ((spec_l1Cur_pick.f l0 bt640.2.2.1 bt640.2.2.2 6).bind fun bt646 => ((spec_l1Cur_pick.f l0 bt646.2.1 bt646.2.2 9).bind fun bt649 => (some (bt640.1, bt640.2.1, wrap64 (bt646.1 - (wrap64 (Int.tdiv bt649.1 8)))))))
set_option maxHeartbeats 8000000 in
set_option maxRecDepth 100000 in
theorem spec_DrawDropClue.calls (k : Nat) (A0 : Option Addr) (c0 : Nat) (l0 : List Int) (r1 : Int) (r2 : List (S39)) (r3 : Int) (w : World) (hr0 : Kd.C (Kd.int .u8) w A0 l0.length l0) (hc0 : l0.length ≤ c0) (h : spec_DrawDropClue.f k l0 = some (r1, r2, r3)) :
  Calls Try.prog 24 #[.slice A0 l0.length c0] w fun e w' => ∃ v1_ : Value, e = .returned (.tuple #[.agg #[.int .i64 r1, v1_], .int .i64 r3]) ∧ Kd.R k39 39 w' w.heap.size (fun _ => True) v1_ r2 ∧ Below w.heap.size w w' := by
 have hu30 := Try.underlying30; have hu65 := Try.underlying65; have HR0 := Aside0.mk hr0; have HC0 := Aside0.mk hc0; clear hr0 hc0
 have HB := Aside0.mk (Below.refl w.heap.size w)
 have H : ((spec_l1Cur_puzzle.f k l0 0 0).bind fun bt640 => ((spec_l1Cur_pick.f l0 bt640.2.2.1 bt640.2.2.2 6).bind fun bt646 => ((spec_l1Cur_pick.f l0 bt646.2.1 bt646.2.2 9).bind fun bt649 => (some (bt640.1, bt640.2.1, wrap64 (bt646.1 - (wrap64 (Int.tdiv bt649.1 8)))))))) = some (r1, r2, r3) := h
 clear h; replace H := Option.bind_eq_some_iff.mp H; obtain ⟨⟨t640, t641, t644, t645⟩, A20, H⟩ := H; (try dsimp only at H); have A2 := Aside0.mk A20; clear A20; replace H := Option.bind_eq_some_iff.mp H; obtain ⟨⟨t646, t647, t648⟩, A30, H⟩ := H
 replace H : ((spec_l1Cur_pick.f l0 t647 t648 9).bind fun bt649 => (some (t640, t641, wrap64 (t646 - (wrap64 (Int.tdiv bt649.1 8)))))) = some (r1, r2, r3) := H
 have A3 := Aside0.mk A30; clear A30; replace H := Option.bind_eq_some_iff.mp H; obtain ⟨⟨t649, t650, t651⟩, A40, H⟩ := H
 replace H : (some (t640, t641, wrap64 (t646 - (wrap64 (Int.tdiv t649 8))))) = some (r1, r2, r3) := H
 have A4 := Aside0.mk A40; clear A40; simp only [Option.some.injEq, Prod.mk.injEq] at H; obtain ⟨rfl, rfl, rfl⟩ := H
 go_enter Try.func24, Try.ntmps24
 go_wp2_with (first | ((with_reducible refine gate_dst (N := 2) rfl ?_); refine zE 2 #[.int .i64 0, .slice none 0 0] 30 ?_; intro gb638 hg w5 hbox hb; have BK638 := Aside0.mk (hbox); have GW638 := zg HB hg; have GE638 := GW638; replace HB := zh HB hb; clear hb hbox hg) | ((with_reducible refine gate_dst (N := 7) rfl ?_); refine zE 7 #[.slice A0 l0.length c0, .int .i64 0, .int .u64 0] 65 ?_; intro gb639 hg w6 hbox hb; have HI639 := Aside0.mk ((show IsS65 w _ gb639 l0 0 0 from ⟨_, _, hbox, (by rw [hg]; exact (below_size (zy HB)) : w.heap.size ≤ gb639), HR0.out⟩)); have GW639 := zg HB hg; have GE639 := GW639; have NB638_639 := zl BK638 hg; have NB639_638 := zr BK638 hg; replace BK638 := zb BK638 hb; replace HB := zh HB hb; clear hb hbox hg) | ((with_reducible refine gate_callee (f := 54) rfl ?_); refine zG (some 9) Try.func54 #[.pointer (some ⟨gb639, 0, none⟩)] ?_; (with_reducible refine (spec_l1Cur_puzzle.calls k gb639 l0 0 0 t640 t641 t644 t645 w _ ?side1 ?side2 A2.out).mono ?_); (case side1 => exact zI65 HI639); (case side2 => exact zY65 HB); rintro e w7 ⟨v642, rfl, ho0, hi, hb, hk⟩; refine ⟨_, rfl, ?_⟩; have HO643 := Aside0.mk (Kd.R_lower ho0 (below_size (zY65 HB))); replace BK638 := zKB BK638 hk; replace HB := Aside0.mk hb; replace HI639 := Aside0.mk hi; clear hb hk hi ho0) | ((with_reducible refine gate_callee (f := 36) rfl ?_); refine zG (some 11) Try.func36 #[.pointer (some ⟨gb639, 0, none⟩), .int .i64 6] ?_; (with_reducible refine (spec_l1Cur_pick.calls gb639 l0 t644 t645 6 t646 t647 t648 w _ ?side1 ?side2 A3.out).mono ?_); (case side1 => exact zI65 HI639); (case side2 => exact zY65 HB); rintro e w8 ⟨rfl, hi, hb, hk⟩; refine ⟨_, rfl, ?_⟩; have n1_ := Aside0.mk (Kd.R_mono (Kd.R_keep (IsS65.apart (show IsS65 w _ gb639 l0 t644 t645 from (zI65 HI639)) (zs HO643) (by decide)) hk (fun _ h => h.2)) (fun _ h => h.1)); replace BK638 := zKB BK638 hk; replace HB := Aside0.mk hb; replace HI639 := Aside0.mk hi; clear HO643; have HO643 := n1_; clear n1_; clear hb hk hi) | ((with_reducible refine gate_callee (f := 36) rfl ?_); refine zG (some 13) Try.func36 #[.pointer (some ⟨gb639, 0, none⟩), .int .i64 9] ?_; (with_reducible refine (spec_l1Cur_pick.calls gb639 l0 t647 t648 9 t649 t650 t651 w _ ?side1 ?side2 A4.out).mono ?_); (case side1 => exact zI65 HI639); (case side2 => exact zY65 HB); rintro e w9 ⟨rfl, hi, hb, hk⟩; refine ⟨_, rfl, ?_⟩; have n1_ := Aside0.mk (Kd.R_mono (Kd.R_keep (IsS65.apart (show IsS65 w _ gb639 l0 t647 t648 from (zI65 HI639)) (zs HO643) (by decide)) hk (fun _ h => h.2)) (fun _ h => h.1)); replace BK638 := zKB BK638 hk; replace HB := Aside0.mk hb; replace HI639 := Aside0.mk hi; clear HO643; have HO643 := n1_; clear n1_; clear hb hk hi; have hnb10 := NB638_639.out; have hnc10 := NB639_638.out; obtain ⟨_, _, _, _⟩ := zc2 BK638; obtain ⟨Ao12, co12, eo12⟩ := Kd.R_slice HO643.out; subst eo12))
 refine bodyPost_ret (results_ct rfl _ _ gb638 30 #[.int .i64 t640, .slice Ao12 t641.length co12] (0, 0) _ rfl (zw BK638) Try.underlying30 rfl (by kernel_rfl)) rfl ?_
 exact ⟨_, zt, by (with_reducible repeat (first | apply Kd.R_alloc | apply Kd.R_drewN | apply Kd.R_drew)); exact Kd.R_mono (Kd.R_far (p := ⟨gb638, 1, none⟩) (Kd.R_far (p := ⟨gb638, 0, none⟩) (Kd.R_types HO643.out BK638.out (by decide)) (fun _ hk => hk.2) (.int .i64 t640)) (fun _ hk => hk.2) (.slice Ao12 t641.length co12)) (fun _ hk => trivial), zY65 HB⟩


/-! ### impl_DropClue: function 25 -/
def impl_DropClue.f (k : Nat) (a0_0 : Int) (l0_1 : List (S39)) (a1 : Int) : Option (Int × (List (S39)) × Bool) := (impl_IsPuzzle.f k a0_0 l0_1).bind fun t654 => (if t654 = true then ((impl_within.f a1 0 (wrap64 ((l0_1.length : Int) - 1))).bind fun t655 => (if t655 = true then ((impl_without.f k l0_1 a1).bind fun t656 => (some (a0_0, t656, true))) else (some (0, ([] : List (S39)), false)))) else (some (0, ([] : List (S39)), false)))
def impl_DropClue.T3 : Bool × List (List Nat × List Nat) := (true, [([], []), ([0], [0]), ([], []), ([2], [2]), ([], []), ([3, 4], [3, 4]), ([1, 5], [1, 5]), ([6, 5, 0, 1, 2, 3, 4, 5, 6], [6]), ([7, 0, 1, 2, 3, 4, 5, 6, 7], [])])
def impl_DropClue.B3 : List Nat := [0, 1, 0, 4, 0, 28, 63, 127, 255]
theorem impl_DropClue.tab3 : rtab .any (opsOf Try.f25 3) = impl_DropClue.T3 := by kernel_rfl
theorem impl_DropClue.bits3 : waitsOk impl_DropClue.T3.2 impl_DropClue.B3 = true := by kernel_rfl
set_option maxHeartbeats 8000000 in
set_option maxRecDepth 100000 in
theorem impl_DropClue.calls (k : Nat) (a0_0 : Int) (A0_1 : Option Addr) (c0_1 : Nat) (l0_1 : List (S39)) (a1 : Int) (r1 : Int) (r2 : List (S39)) (r3 : Bool) (w : World) (hr0_1 : Kd.C k39 w A0_1 l0_1.length l0_1) (hc0_1 : l0_1.length ≤ c0_1) (h : impl_DropClue.f k a0_0 l0_1 a1 = some (r1, r2, r3)) :
  Calls Try.prog 25 #[.agg #[.int .i64 a0_0, .slice A0_1 l0_1.length c0_1], .int .i64 a1] w fun e w' => ∃ v1_ : Value, e = .returned (.tuple #[.agg #[.int .i64 r1, v1_], .bool r3]) ∧ Kd.R k39 39 w' w.heap.size (fun _ => True) v1_ r2 ∧ Below w.heap.size w w' := by
 have hu30 := Try.underlying30; have HR0_1 := Aside0.mk hr0_1; have HC0_1 := Aside0.mk hc0_1; clear hr0_1 hc0_1
 have HB := Aside0.mk (Below.refl w.heap.size w)
 have H : ((impl_IsPuzzle.f k a0_0 l0_1).bind fun t654 => (if t654 = true then ((impl_within.f a1 0 (wrap64 ((l0_1.length : Int) - 1))).bind fun t655 => (if t655 = true then ((impl_without.f k l0_1 a1).bind fun t656 => (some (a0_0, t656, true))) else (some (0, ([] : List (S39)), false)))) else (some (0, ([] : List (S39)), false)))) = some (r1, r2, r3) := h
 clear h; replace H := Option.bind_eq_some_iff.mp H; obtain ⟨t654, A30, H⟩ := H; (try dsimp only at H); have A3 := Aside0.mk A30; clear A30
 by_cases c4 : t654 = true
 ·subst c4
  rw [if_pos rfl] at H; replace H := Option.bind_eq_some_iff.mp H; obtain ⟨t655, A50, H⟩ := H
  replace H : (if t655 = true then ((impl_without.f k l0_1 a1).bind fun t656 => (some (a0_0, t656, true))) else (some (0, ([] : List (S39)), false))) = some (r1, r2, r3) := H
  have A5 := Aside0.mk A50; clear A50
  by_cases c6 : t655 = true
  ·subst c6
   rw [if_pos rfl] at H; replace H := Option.bind_eq_some_iff.mp H; obtain ⟨t656, A70, H⟩ := H
   replace H : (some (a0_0, t656, true)) = some (r1, r2, r3) := H
   have A7 := Aside0.mk A70; clear A70; simp only [Option.some.injEq, Prod.mk.injEq] at H; obtain ⟨rfl, rfl, rfl⟩ := H
   go_enter Try.func25, Try.ntmps25
   try go_wp2_with (first | ((with_reducible refine gate_dst (N := 2) rfl ?_); (try (refine gate_guard (by rfl) ?_; dsimp only)); refine zE 2 #[.int .i64 a0_0, .slice A0_1 l0_1.length c0_1] 30 ?_; intro gb652 hg w8 hbox hb; have BK652 := Aside0.mk (hbox); have GW652 := zg HB hg; have GE652 := GW652; replace HB := zh HB hb; clear hb hbox hg) | ((with_reducible refine gate_dst (N := 4) rfl ?_); (try (refine gate_guard (by rfl) ?_; dsimp only)); refine zE 4 #[.int .i64 0, .slice none 0 0] 30 ?_; intro gb653 hg w9 hbox hb; have BK653 := Aside0.mk (hbox); have GW653 := zg HB hg; have GE653 := GW653; have NB652_653 := zl BK652 hg; have NB653_652 := zr BK652 hg; replace BK652 := zb BK652 hb; replace HB := zh HB hb; clear hb hbox hg; have hnb10 := NB652_653.out; have hnc10 := NB653_652.out; obtain ⟨_, _, _, _⟩ := zc2 BK652) | ((with_reducible refine gate_callee (f := 13) rfl ?_); refine zG (some 7) Try.func13 #[.agg #[.int .i64 a0_0, .slice A0_1 l0_1.length c0_1]] ?_; (with_reducible refine (impl_IsPuzzle.calls k a0_0 _ _ l0_1 true _ ?side1 ?side2 A3.out).mono ?_); (case side1 => repeat (first | exact (Kd.C_below HR0_1.out HB.out) | (with_reducible refine Kd.C_alloc ?_ _) | (with_reducible refine Kd.C_drewN ?_ _) | (with_reducible refine Kd.C_drew ?_))); (case side2 => exact HC0_1.out); rintro e w12 ⟨rfl, hb⟩; refine ⟨_, rfl, ?_⟩; replace BK652 := zb BK652 hb; replace BK653 := zb BK653 hb; replace HB := zh HB hb; clear hb; obtain ⟨_, _, _, _⟩ := zc2 BK652) | (go_at_call 38; (with_reducible refine (impl_within.calls a1 0 (wrap64 ((l0_1.length : Int) - 1)) true _ A5.out).mono ?_); rintro e w' ⟨rfl, ⟨nd, rfl⟩⟩; (try (rw [drewN_self w12]; generalize hq_ : World.drewN w12 _ = w12; have n0_ : Aside0 (w12.heap[gb652]? = some (.cells #[.int .i64 a0_0, .slice A0_1 l0_1.length c0_1] 30 (0, 0))) := ⟨by rw [← hq_]; exact (zq BK652)⟩; have n1_ : Aside0 (w12.heap[gb653]? = some (.cells #[.int .i64 0, .slice none 0 0] 30 (0, 0))) := ⟨by rw [← hq_]; exact (zq BK653)⟩; have n2_ : Aside0 (Below w.heap.size w w12) := ⟨by rw [← hq_]; exact (zy HB)⟩; clear BK652 BK653 HB hq_; have BK652 := n0_; have BK653 := n1_; have HB := n2_; clear n0_ n1_ n2_))))
   replace BK652 := Aside0.mk (blk_drew BK652.out); replace BK653 := Aside0.mk (blk_drew BK653.out); replace HB := Aside0.mk (below_drew1 HB.out)
   refine start_ (n := 9) (S := fun w' => w'.cell? ⟨gb652, 0, none⟩ = some (.int .i64 a0_0) ∧ w'.cell? ⟨gb652, 1, none⟩ = some (.slice A0_1 l0_1.length c0_1)) (ds := []) #[false, false, false, false, false, false, false, false, false] (by kernel_rfl) rfl rfl ⟨(blk_cell BK652.out 0).trans rfl, (blk_cell BK652.out 1).trans rfl⟩ (fun hHeld => ?_); refine with_tabW impl_DropClue.tab3 impl_DropClue.bits3 (fun HT_ HW_ => ?_)
   generalize w12.drew = w14 at BK652 BK653 HB hHeld ⊢
   refine zA 0 19 HT_ ?_
   refine zA 2 21 HT_ ?_
   refine zA 4 23 HT_ ?_
   refine zT 1 20 HT_ HW_ hHeld ?_
   refine zT 3 22 HT_ HW_ hHeld ?_
   refine zO 5 (some 24) HT_ (fun K hK => ?_)
   refine goes_ Try.func57 (by kernel_rfl) rfl #[.slice A0_1 l0_1.length c0_1, .int .i64 a1] (by rfl) rfl rfl zO3_3 ?_
   with_reducible refine (impl_without.calls k (fun k_ => k_ < w.heap.size) _ _ l0_1 a1 t656 _ ?side1 A7.out).mono ?_
   (case side1 => exact Kd.V_mk HC0_1.out (Kd.F_below (Kd.C_F k39_heap HR0_1.out) (zy HB)))
   rintro e w15 ⟨v657, rfl, ho0, hb⟩
   refine ⟨_, rfl, ?_⟩
   have HO658 := Aside0.mk (Kd.R_lower (Kd.R_mono (ok' := fun k_ => True) ho0 (fun _ hk_ => trivial)) (below_size (zy HB)))
   replace BK652 := zb BK652 hb; replace BK653 := zb BK653 hb; replace HB := zh HB hb
   (try clear hb)
   (try clear hb2)
   (try clear hk)
   (try clear hi)
   (try clear ho0)
   obtain ⟨Ao16, co16, eo16⟩ := Kd.R_slice HO658.out
   (first | subst eo16 | (injection eo16 with f1_ f2_ f3_; have f4_ := f1_.symm; have f5_ := f3_.symm; clear f1_ f2_ f3_; subst f4_; subst f5_))
   refine hK.out _ _ ⟨(blk_cell BK652.out 0).trans rfl, (blk_cell BK652.out 1).trans rfl⟩ (fun hHeld => ?_)
   clear hK K
   refine zN 24 ?_
   refine zA 6 25 HT_ ?_
   refine zO 7 none HT_ (fun K hK => ?_)
   have hs17 : w15.cell? ⟨gb653, 0, none⟩ = some (.int .i64 0) := (blk_cell BK653.out 0).trans rfl
   have hfs17 := blk_frozen BK653.out 0
   have hns17_0 := NB652_653.out; have hms17_0 := NB653_652.out
   have hs18 : w15.cell? ⟨gb653, 1, none⟩ = some (.slice none 0 0) := (blk_cell BK653.out 1).trans rfl
   have hfs18 := blk_frozen BK653.out 1
   have hns18_0 := NB652_653.out; have hms18_0 := NB653_652.out
   refine skip_ (w1 := ?_) (by rfl) rfl ?_ ?_
   rotate_left
   ·go_simp
    rfl
   refine hK.out _ _ ⟨((cell_far (p := ⟨gb653, _, none⟩) NB652_653.out _).trans (((cell_far (p := ⟨gb653, _, none⟩) NB652_653.out _).trans (hHeld.1)))), ((cell_far (p := ⟨gb653, _, none⟩) NB652_653.out _).trans (((cell_far (p := ⟨gb653, _, none⟩) NB652_653.out _).trans (hHeld.2))))⟩ (fun hHeld => ?_)
   clear hK K
   refine zA 8 5 HT_ ?_
   refine done_ (done_of HT_.out (by kernel_rfl)) ?_
   try go_wp2
   refine bodyPost_ret (results_ct rfl _ _ gb653 30 #[.int .i64 a0_0, .slice Ao16 t656.length co16] (0, 0) _ rfl (zw BK653) Try.underlying30 rfl (by kernel_rfl)) rfl ?_
   exact ⟨_, zt, by (with_reducible repeat (first | apply Kd.R_alloc | apply Kd.R_drewN | apply Kd.R_drew)); exact Kd.R_mono (Kd.R_far (p := ⟨gb653, 1, none⟩) (Kd.R_far (p := ⟨gb653, 0, none⟩) (Kd.R_types HO658.out BK653.out (by decide)) (fun _ hk => hk.2) (.int .i64 a0_0)) (fun _ hk => hk.2) (.slice Ao16 t656.length co16)) (fun _ hk => trivial), zy HB⟩
  ·replace c6 := Bool.eq_false_iff.mpr c6
   subst c6; rw [if_neg (show ¬ (false = true) by decide)] at H; simp only [Option.some.injEq, Prod.mk.injEq] at H; obtain ⟨rfl, rfl, rfl⟩ := H
   go_enter Try.func25, Try.ntmps25
   go_wp2_with (first | ((with_reducible refine gate_dst (N := 2) rfl ?_); (try (refine gate_guard (by rfl) ?_; dsimp only)); refine zE 2 #[.int .i64 a0_0, .slice A0_1 l0_1.length c0_1] 30 ?_; intro gb652 hg w19 hbox hb; have BK652 := Aside0.mk (hbox); have GW652 := zg HB hg; have GE652 := GW652; replace HB := zh HB hb; clear hb hbox hg) | ((with_reducible refine gate_dst (N := 4) rfl ?_); (try (refine gate_guard (by rfl) ?_; dsimp only)); refine zE 4 #[.int .i64 0, .slice none 0 0] 30 ?_; intro gb653 hg w20 hbox hb; have BK653 := Aside0.mk (hbox); have GW653 := zg HB hg; have GE653 := GW653; have NB652_653 := zl BK652 hg; have NB653_652 := zr BK652 hg; replace BK652 := zb BK652 hb; replace HB := zh HB hb; clear hb hbox hg; have hnb21 := NB652_653.out; have hnc21 := NB653_652.out; obtain ⟨_, _, _, _⟩ := zc2 BK652) | ((with_reducible refine gate_callee (f := 13) rfl ?_); refine zG (some 7) Try.func13 #[.agg #[.int .i64 a0_0, .slice A0_1 l0_1.length c0_1]] ?_; (with_reducible refine (impl_IsPuzzle.calls k a0_0 _ _ l0_1 true _ ?side1 ?side2 A3.out).mono ?_); (case side1 => repeat (first | exact (Kd.C_below HR0_1.out HB.out) | (with_reducible refine Kd.C_alloc ?_ _) | (with_reducible refine Kd.C_drewN ?_ _) | (with_reducible refine Kd.C_drew ?_))); (case side2 => exact HC0_1.out); rintro e w23 ⟨rfl, hb⟩; refine ⟨_, rfl, ?_⟩; replace BK652 := zb BK652 hb; replace BK653 := zb BK653 hb; replace HB := zh HB hb; clear hb; obtain ⟨_, _, _, _⟩ := zc2 BK652) | (go_at_call 38; (with_reducible refine (impl_within.calls a1 0 (wrap64 ((l0_1.length : Int) - 1)) false _ A5.out).mono ?_); rintro e w' ⟨rfl, ⟨nd, rfl⟩⟩; (try (rw [drewN_self w23]; generalize hq_ : World.drewN w23 _ = w23; have n0_ : Aside0 (w23.heap[gb652]? = some (.cells #[.int .i64 a0_0, .slice A0_1 l0_1.length c0_1] 30 (0, 0))) := ⟨by rw [← hq_]; exact (zq BK652)⟩; have n1_ : Aside0 (w23.heap[gb653]? = some (.cells #[.int .i64 0, .slice none 0 0] 30 (0, 0))) := ⟨by rw [← hq_]; exact (zq BK653)⟩; have n2_ : Aside0 (Below w.heap.size w w23) := ⟨by rw [← hq_]; exact (zy HB)⟩; clear BK652 BK653 HB hq_; have BK652 := n0_; have BK653 := n1_; have HB := n2_; clear n0_ n1_ n2_)); obtain ⟨_, _, _, _⟩ := zc2 BK653))
   refine bodyPost_ret (results_ct rfl _ _ gb653 30 #[.int .i64 0, .slice none 0 0] (0, 0) _ rfl (zw BK653) Try.underlying30 rfl (by kernel_rfl)) rfl ?_
   exact ⟨_, zt, by first | exact Kd.R_nil _ _ _ _ _ | exact Kd.N_nil _ _ _ _ _ | exact Kd.V_nil _ _ _ _ _ | exact Kd.Q_nil _ _ _ _ _ | exact Kd.S_nil _ _ _ _ _, zy HB⟩
 ·replace c4 := Bool.eq_false_iff.mpr c4
  subst c4; rw [if_neg (show ¬ (false = true) by decide)] at H; simp only [Option.some.injEq, Prod.mk.injEq] at H; obtain ⟨rfl, rfl, rfl⟩ := H
  go_enter Try.func25, Try.ntmps25
  go_wp2_with (first | ((with_reducible refine gate_dst (N := 2) rfl ?_); (try (refine gate_guard (by rfl) ?_; dsimp only)); refine zE 2 #[.int .i64 a0_0, .slice A0_1 l0_1.length c0_1] 30 ?_; intro gb652 hg w26 hbox hb; have BK652 := Aside0.mk (hbox); have GW652 := zg HB hg; have GE652 := GW652; replace HB := zh HB hb; clear hb hbox hg) | ((with_reducible refine gate_dst (N := 4) rfl ?_); (try (refine gate_guard (by rfl) ?_; dsimp only)); refine zE 4 #[.int .i64 0, .slice none 0 0] 30 ?_; intro gb653 hg w27 hbox hb; have BK653 := Aside0.mk (hbox); have GW653 := zg HB hg; have GE653 := GW653; have NB652_653 := zl BK652 hg; have NB653_652 := zr BK652 hg; replace BK652 := zb BK652 hb; replace HB := zh HB hb; clear hb hbox hg; have hnb28 := NB652_653.out; have hnc28 := NB653_652.out; obtain ⟨_, _, _, _⟩ := zc2 BK652) | ((with_reducible refine gate_callee (f := 13) rfl ?_); refine zG (some 7) Try.func13 #[.agg #[.int .i64 a0_0, .slice A0_1 l0_1.length c0_1]] ?_; (with_reducible refine (impl_IsPuzzle.calls k a0_0 _ _ l0_1 false _ ?side1 ?side2 A3.out).mono ?_); (case side1 => repeat (first | exact (Kd.C_below HR0_1.out HB.out) | (with_reducible refine Kd.C_alloc ?_ _) | (with_reducible refine Kd.C_drewN ?_ _) | (with_reducible refine Kd.C_drew ?_))); (case side2 => exact HC0_1.out); rintro e w30 ⟨rfl, hb⟩; refine ⟨_, rfl, ?_⟩; replace BK652 := zb BK652 hb; replace BK653 := zb BK653 hb; replace HB := zh HB hb; clear hb; obtain ⟨_, _, _, _⟩ := zc2 BK653))
  refine bodyPost_ret (results_ct rfl _ _ gb653 30 #[.int .i64 0, .slice none 0 0] (0, 0) _ rfl (zw BK653) Try.underlying30 rfl (by kernel_rfl)) rfl ?_
  exact ⟨_, zt, by first | exact Kd.R_nil _ _ _ _ _ | exact Kd.N_nil _ _ _ _ _ | exact Kd.V_nil _ _ _ _ _ | exact Kd.Q_nil _ _ _ _ _ | exact Kd.S_nil _ _ _ _ _, zy HB⟩


/-! ### spec_DropClue: function 26 -/
def spec_DropClue.f (k : Nat) (a0_0 : Int) (l0_1 : List (S39)) (a1 : Int) : Option (Int × (List (S39)) × Bool) := (spec_pzGood.f k a0_0 l0_1).bind fun t661 => (if t661 = true then ((spec_l1In.f a1 0 (wrap64 ((l0_1.length : Int) - 1))).bind fun t662 => (if t662 = true then ((spec_pzWithout.f l0_1 a1).bind fun t663 => (some (a0_0, t663, true))) else (some (0, ([] : List (S39)), false)))) else (some (0, ([] : List (S39)), false)))
def spec_DropClue.T3 : Bool × List (List Nat × List Nat) := (true, [([], []), ([0], [0]), ([], []), ([2], [2]), ([], []), ([3, 4], [3, 4]), ([1, 5], [1, 5]), ([6, 5, 0, 1, 2, 3, 4, 5, 6], [6]), ([7, 0, 1, 2, 3, 4, 5, 6, 7], [])])
def spec_DropClue.B3 : List Nat := [0, 1, 0, 4, 0, 28, 63, 127, 255]
theorem spec_DropClue.tab3 : rtab .any (opsOf Try.f26 3) = spec_DropClue.T3 := by kernel_rfl
theorem spec_DropClue.bits3 : waitsOk spec_DropClue.T3.2 spec_DropClue.B3 = true := by kernel_rfl
set_option maxHeartbeats 8000000 in
set_option maxRecDepth 100000 in
theorem spec_DropClue.calls (k : Nat) (a0_0 : Int) (A0_1 : Option Addr) (c0_1 : Nat) (l0_1 : List (S39)) (a1 : Int) (r1 : Int) (r2 : List (S39)) (r3 : Bool) (w : World) (hr0_1 : Kd.C k39 w A0_1 l0_1.length l0_1) (hc0_1 : l0_1.length ≤ c0_1) (h : spec_DropClue.f k a0_0 l0_1 a1 = some (r1, r2, r3)) :
  Calls Try.prog 26 #[.agg #[.int .i64 a0_0, .slice A0_1 l0_1.length c0_1], .int .i64 a1] w fun e w' => ∃ v1_ : Value, e = .returned (.tuple #[.agg #[.int .i64 r1, v1_], .bool r3]) ∧ Kd.R k39 39 w' w.heap.size (fun _ => True) v1_ r2 ∧ Below w.heap.size w w' := by
 have hu30 := Try.underlying30; have HR0_1 := Aside0.mk hr0_1; have HC0_1 := Aside0.mk hc0_1; clear hr0_1 hc0_1
 have HB := Aside0.mk (Below.refl w.heap.size w)
 have H : ((spec_pzGood.f k a0_0 l0_1).bind fun t661 => (if t661 = true then ((spec_l1In.f a1 0 (wrap64 ((l0_1.length : Int) - 1))).bind fun t662 => (if t662 = true then ((spec_pzWithout.f l0_1 a1).bind fun t663 => (some (a0_0, t663, true))) else (some (0, ([] : List (S39)), false)))) else (some (0, ([] : List (S39)), false)))) = some (r1, r2, r3) := h
 clear h; replace H := Option.bind_eq_some_iff.mp H; obtain ⟨t661, A30, H⟩ := H; (try dsimp only at H); have A3 := Aside0.mk A30; clear A30
 by_cases c4 : t661 = true
 ·subst c4
  rw [if_pos rfl] at H; replace H := Option.bind_eq_some_iff.mp H; obtain ⟨t662, A50, H⟩ := H
  replace H : (if t662 = true then ((spec_pzWithout.f l0_1 a1).bind fun t663 => (some (a0_0, t663, true))) else (some (0, ([] : List (S39)), false))) = some (r1, r2, r3) := H
  have A5 := Aside0.mk A50; clear A50
  by_cases c6 : t662 = true
  ·subst c6
   rw [if_pos rfl] at H; replace H := Option.bind_eq_some_iff.mp H; obtain ⟨t663, A70, H⟩ := H
   replace H : (some (a0_0, t663, true)) = some (r1, r2, r3) := H
   have A7 := Aside0.mk A70; clear A70; simp only [Option.some.injEq, Prod.mk.injEq] at H; obtain ⟨rfl, rfl, rfl⟩ := H
   go_enter Try.func26, Try.ntmps26
   try go_wp2_with (first | ((with_reducible refine gate_dst (N := 2) rfl ?_); (try (refine gate_guard (by rfl) ?_; dsimp only)); refine zE 2 #[.int .i64 a0_0, .slice A0_1 l0_1.length c0_1] 30 ?_; intro gb659 hg w8 hbox hb; have BK659 := Aside0.mk (hbox); have GW659 := zg HB hg; have GE659 := GW659; replace HB := zh HB hb; clear hb hbox hg) | ((with_reducible refine gate_dst (N := 4) rfl ?_); (try (refine gate_guard (by rfl) ?_; dsimp only)); refine zE 4 #[.int .i64 0, .slice none 0 0] 30 ?_; intro gb660 hg w9 hbox hb; have BK660 := Aside0.mk (hbox); have GW660 := zg HB hg; have GE660 := GW660; have NB659_660 := zl BK659 hg; have NB660_659 := zr BK659 hg; replace BK659 := zb BK659 hb; replace HB := zh HB hb; clear hb hbox hg; have hnb10 := NB659_660.out; have hnc10 := NB660_659.out; obtain ⟨_, _, _, _⟩ := zc2 BK659) | ((with_reducible refine gate_callee (f := 58) rfl ?_); refine zG (some 7) Try.func58 #[.agg #[.int .i64 a0_0, .slice A0_1 l0_1.length c0_1]] ?_; (with_reducible refine (spec_pzGood.calls k a0_0 _ _ l0_1 true _ ?side1 ?side2 A3.out).mono ?_); (case side1 => repeat (first | exact (Kd.C_below HR0_1.out HB.out) | (with_reducible refine Kd.C_alloc ?_ _) | (with_reducible refine Kd.C_drewN ?_ _) | (with_reducible refine Kd.C_drew ?_))); (case side2 => exact HC0_1.out); rintro e w12 ⟨rfl, hb⟩; refine ⟨_, rfl, ?_⟩; replace BK659 := zb BK659 hb; replace BK660 := zb BK660 hb; replace HB := zh HB hb; clear hb; obtain ⟨_, _, _, _⟩ := zc2 BK659) | (go_at_call 42; (with_reducible refine (spec_l1In.calls a1 0 (wrap64 ((l0_1.length : Int) - 1)) true _ A5.out).mono ?_); rintro e w' ⟨rfl, ⟨nd, rfl⟩⟩; (try (rw [drewN_self w12]; generalize hq_ : World.drewN w12 _ = w12; have n0_ : Aside0 (w12.heap[gb659]? = some (.cells #[.int .i64 a0_0, .slice A0_1 l0_1.length c0_1] 30 (0, 0))) := ⟨by rw [← hq_]; exact (zq BK659)⟩; have n1_ : Aside0 (w12.heap[gb660]? = some (.cells #[.int .i64 0, .slice none 0 0] 30 (0, 0))) := ⟨by rw [← hq_]; exact (zq BK660)⟩; have n2_ : Aside0 (Below w.heap.size w w12) := ⟨by rw [← hq_]; exact (zy HB)⟩; clear BK659 BK660 HB hq_; have BK659 := n0_; have BK660 := n1_; have HB := n2_; clear n0_ n1_ n2_))))
   replace BK659 := Aside0.mk (blk_drew BK659.out); replace BK660 := Aside0.mk (blk_drew BK660.out); replace HB := Aside0.mk (below_drew1 HB.out)
   refine start_ (n := 9) (S := fun w' => w'.cell? ⟨gb659, 0, none⟩ = some (.int .i64 a0_0) ∧ w'.cell? ⟨gb659, 1, none⟩ = some (.slice A0_1 l0_1.length c0_1)) (ds := []) #[false, false, false, false, false, false, false, false, false] (by kernel_rfl) rfl rfl ⟨(blk_cell BK659.out 0).trans rfl, (blk_cell BK659.out 1).trans rfl⟩ (fun hHeld => ?_); refine with_tabW spec_DropClue.tab3 spec_DropClue.bits3 (fun HT_ HW_ => ?_)
   generalize w12.drew = w14 at BK659 BK660 HB hHeld ⊢
   refine zA 0 19 HT_ ?_
   refine zA 2 21 HT_ ?_
   refine zA 4 23 HT_ ?_
   refine zT 1 20 HT_ HW_ hHeld ?_
   refine zT 3 22 HT_ HW_ hHeld ?_
   refine zO 5 (some 24) HT_ (fun K hK => ?_)
   refine goes_ Try.func60 (by kernel_rfl) rfl #[.slice A0_1 l0_1.length c0_1, .int .i64 a1] (by rfl) rfl rfl zO3_3 ?_
   with_reducible refine (spec_pzWithout.calls _ _ l0_1 a1 t663 _ ?side1 ?side2 A7.out).mono ?_
   (case side1 => repeat (first | exact (Kd.C_below HR0_1.out HB.out) | (with_reducible refine Kd.C_alloc ?_ _) | (with_reducible refine Kd.C_drewN ?_ _) | (with_reducible refine Kd.C_drew ?_)))
   (case side2 => exact HC0_1.out)
   rintro e w15 ⟨v664, rfl, ho0, hb⟩
   refine ⟨_, rfl, ?_⟩
   have HO665 := Aside0.mk (Kd.R_lower ho0 (below_size (zy HB)))
   replace BK659 := zb BK659 hb; replace BK660 := zb BK660 hb; replace HB := zh HB hb
   (try clear hb)
   (try clear hb2)
   (try clear hk)
   (try clear hi)
   (try clear ho0)
   obtain ⟨Ao16, co16, eo16⟩ := Kd.R_slice HO665.out
   (first | subst eo16 | (injection eo16 with f1_ f2_ f3_; have f4_ := f1_.symm; have f5_ := f3_.symm; clear f1_ f2_ f3_; subst f4_; subst f5_))
   refine hK.out _ _ ⟨(blk_cell BK659.out 0).trans rfl, (blk_cell BK659.out 1).trans rfl⟩ (fun hHeld => ?_)
   clear hK K
   refine zN 24 ?_
   refine zA 6 25 HT_ ?_
   refine zO 7 none HT_ (fun K hK => ?_)
   have hs17 : w15.cell? ⟨gb660, 0, none⟩ = some (.int .i64 0) := (blk_cell BK660.out 0).trans rfl
   have hfs17 := blk_frozen BK660.out 0
   have hns17_0 := NB659_660.out; have hms17_0 := NB660_659.out
   have hs18 : w15.cell? ⟨gb660, 1, none⟩ = some (.slice none 0 0) := (blk_cell BK660.out 1).trans rfl
   have hfs18 := blk_frozen BK660.out 1
   have hns18_0 := NB659_660.out; have hms18_0 := NB660_659.out
   refine skip_ (w1 := ?_) (by rfl) rfl ?_ ?_
   rotate_left
   ·go_simp
    rfl
   refine hK.out _ _ ⟨((cell_far (p := ⟨gb660, _, none⟩) NB659_660.out _).trans (((cell_far (p := ⟨gb660, _, none⟩) NB659_660.out _).trans (hHeld.1)))), ((cell_far (p := ⟨gb660, _, none⟩) NB659_660.out _).trans (((cell_far (p := ⟨gb660, _, none⟩) NB659_660.out _).trans (hHeld.2))))⟩ (fun hHeld => ?_)
   clear hK K
   refine zA 8 5 HT_ ?_
   refine done_ (done_of HT_.out (by kernel_rfl)) ?_
   try go_wp2
   refine bodyPost_ret (results_ct rfl _ _ gb660 30 #[.int .i64 a0_0, .slice Ao16 t663.length co16] (0, 0) _ rfl (zw BK660) Try.underlying30 rfl (by kernel_rfl)) rfl ?_
   exact ⟨_, zt, by (with_reducible repeat (first | apply Kd.R_alloc | apply Kd.R_drewN | apply Kd.R_drew)); exact Kd.R_mono (Kd.R_far (p := ⟨gb660, 1, none⟩) (Kd.R_far (p := ⟨gb660, 0, none⟩) (Kd.R_types HO665.out BK660.out (by decide)) (fun _ hk => hk.2) (.int .i64 a0_0)) (fun _ hk => hk.2) (.slice Ao16 t663.length co16)) (fun _ hk => trivial), zy HB⟩
  ·replace c6 := Bool.eq_false_iff.mpr c6
   subst c6; rw [if_neg (show ¬ (false = true) by decide)] at H; simp only [Option.some.injEq, Prod.mk.injEq] at H; obtain ⟨rfl, rfl, rfl⟩ := H
   go_enter Try.func26, Try.ntmps26
   go_wp2_with (first | ((with_reducible refine gate_dst (N := 2) rfl ?_); (try (refine gate_guard (by rfl) ?_; dsimp only)); refine zE 2 #[.int .i64 a0_0, .slice A0_1 l0_1.length c0_1] 30 ?_; intro gb659 hg w19 hbox hb; have BK659 := Aside0.mk (hbox); have GW659 := zg HB hg; have GE659 := GW659; replace HB := zh HB hb; clear hb hbox hg) | ((with_reducible refine gate_dst (N := 4) rfl ?_); (try (refine gate_guard (by rfl) ?_; dsimp only)); refine zE 4 #[.int .i64 0, .slice none 0 0] 30 ?_; intro gb660 hg w20 hbox hb; have BK660 := Aside0.mk (hbox); have GW660 := zg HB hg; have GE660 := GW660; have NB659_660 := zl BK659 hg; have NB660_659 := zr BK659 hg; replace BK659 := zb BK659 hb; replace HB := zh HB hb; clear hb hbox hg; have hnb21 := NB659_660.out; have hnc21 := NB660_659.out; obtain ⟨_, _, _, _⟩ := zc2 BK659) | ((with_reducible refine gate_callee (f := 58) rfl ?_); refine zG (some 7) Try.func58 #[.agg #[.int .i64 a0_0, .slice A0_1 l0_1.length c0_1]] ?_; (with_reducible refine (spec_pzGood.calls k a0_0 _ _ l0_1 true _ ?side1 ?side2 A3.out).mono ?_); (case side1 => repeat (first | exact (Kd.C_below HR0_1.out HB.out) | (with_reducible refine Kd.C_alloc ?_ _) | (with_reducible refine Kd.C_drewN ?_ _) | (with_reducible refine Kd.C_drew ?_))); (case side2 => exact HC0_1.out); rintro e w23 ⟨rfl, hb⟩; refine ⟨_, rfl, ?_⟩; replace BK659 := zb BK659 hb; replace BK660 := zb BK660 hb; replace HB := zh HB hb; clear hb; obtain ⟨_, _, _, _⟩ := zc2 BK659) | (go_at_call 42; (with_reducible refine (spec_l1In.calls a1 0 (wrap64 ((l0_1.length : Int) - 1)) false _ A5.out).mono ?_); rintro e w' ⟨rfl, ⟨nd, rfl⟩⟩; (try (rw [drewN_self w23]; generalize hq_ : World.drewN w23 _ = w23; have n0_ : Aside0 (w23.heap[gb659]? = some (.cells #[.int .i64 a0_0, .slice A0_1 l0_1.length c0_1] 30 (0, 0))) := ⟨by rw [← hq_]; exact (zq BK659)⟩; have n1_ : Aside0 (w23.heap[gb660]? = some (.cells #[.int .i64 0, .slice none 0 0] 30 (0, 0))) := ⟨by rw [← hq_]; exact (zq BK660)⟩; have n2_ : Aside0 (Below w.heap.size w w23) := ⟨by rw [← hq_]; exact (zy HB)⟩; clear BK659 BK660 HB hq_; have BK659 := n0_; have BK660 := n1_; have HB := n2_; clear n0_ n1_ n2_)); obtain ⟨_, _, _, _⟩ := zc2 BK660))
   refine bodyPost_ret (results_ct rfl _ _ gb660 30 #[.int .i64 0, .slice none 0 0] (0, 0) _ rfl (zw BK660) Try.underlying30 rfl (by kernel_rfl)) rfl ?_
   exact ⟨_, zt, by first | exact Kd.R_nil _ _ _ _ _ | exact Kd.N_nil _ _ _ _ _ | exact Kd.V_nil _ _ _ _ _ | exact Kd.Q_nil _ _ _ _ _ | exact Kd.S_nil _ _ _ _ _, zy HB⟩
 ·replace c4 := Bool.eq_false_iff.mpr c4
  subst c4; rw [if_neg (show ¬ (false = true) by decide)] at H; simp only [Option.some.injEq, Prod.mk.injEq] at H; obtain ⟨rfl, rfl, rfl⟩ := H
  go_enter Try.func26, Try.ntmps26
  go_wp2_with (first | ((with_reducible refine gate_dst (N := 2) rfl ?_); (try (refine gate_guard (by rfl) ?_; dsimp only)); refine zE 2 #[.int .i64 a0_0, .slice A0_1 l0_1.length c0_1] 30 ?_; intro gb659 hg w26 hbox hb; have BK659 := Aside0.mk (hbox); have GW659 := zg HB hg; have GE659 := GW659; replace HB := zh HB hb; clear hb hbox hg) | ((with_reducible refine gate_dst (N := 4) rfl ?_); (try (refine gate_guard (by rfl) ?_; dsimp only)); refine zE 4 #[.int .i64 0, .slice none 0 0] 30 ?_; intro gb660 hg w27 hbox hb; have BK660 := Aside0.mk (hbox); have GW660 := zg HB hg; have GE660 := GW660; have NB659_660 := zl BK659 hg; have NB660_659 := zr BK659 hg; replace BK659 := zb BK659 hb; replace HB := zh HB hb; clear hb hbox hg; have hnb28 := NB659_660.out; have hnc28 := NB660_659.out; obtain ⟨_, _, _, _⟩ := zc2 BK659) | ((with_reducible refine gate_callee (f := 58) rfl ?_); refine zG (some 7) Try.func58 #[.agg #[.int .i64 a0_0, .slice A0_1 l0_1.length c0_1]] ?_; (with_reducible refine (spec_pzGood.calls k a0_0 _ _ l0_1 false _ ?side1 ?side2 A3.out).mono ?_); (case side1 => repeat (first | exact (Kd.C_below HR0_1.out HB.out) | (with_reducible refine Kd.C_alloc ?_ _) | (with_reducible refine Kd.C_drewN ?_ _) | (with_reducible refine Kd.C_drew ?_))); (case side2 => exact HC0_1.out); rintro e w30 ⟨rfl, hb⟩; refine ⟨_, rfl, ?_⟩; replace BK659 := zb BK659 hb; replace BK660 := zb BK660 hb; replace HB := zh HB hb; clear hb; obtain ⟨_, _, _, _⟩ := zc2 BK660))
  refine bodyPost_ret (results_ct rfl _ _ gb660 30 #[.int .i64 0, .slice none 0 0] (0, 0) _ rfl (zw BK660) Try.underlying30 rfl (by kernel_rfl)) rfl ?_
  exact ⟨_, zt, by first | exact Kd.R_nil _ _ _ _ _ | exact Kd.N_nil _ _ _ _ _ | exact Kd.V_nil _ _ _ _ _ | exact Kd.Q_nil _ _ _ _ _ | exact Kd.S_nil _ _ _ _ _, zy HB⟩


/-! ### spec_DrawDoesFit: function 27 -/
def spec_DrawDoesFit.j0 : Nat → Bool → List Int → Int → Int → Int → Int → Int → Int → List (S39) → Option (Int × Int × Int × Int × Int × Int)
 | 0, _, _, _, _, _, _, _, _, _ => none
 | k + 1, x24, x669000, x669001, x669002, x675000, x675001, x675002, x684000, x684001 => if x24 = true then (if 0 < (x684001.length : Int) then (some ((rd_T39 x684001 0).f0, (rd_T39 x684001 0).f1, (rd_T39 x684001 0).f2, x675000, x675001, x675002)) else (none)) else ((spec_l1Cur_one.f x669000 x669001 x669002 10).bind fun bt688 => (if bt688.1 = true then ((spec_l1Cur_ladders.f x669000 bt688.2.1 bt688.2.2).bind fun bt691 => ((spec_l1Cur_clue.f k x669000 bt691.2.2.2.1 bt691.2.2.2.2).bind fun bt696 => (some (bt696.1, bt696.2.1, bt696.2.2.1, bt691.1, bt691.2.1, bt691.2.2.1)))) else ((spec_l1Cur_clue.f k x669000 bt688.2.1 bt688.2.2).bind fun bt701 => (some (bt701.1, bt701.2.1, bt701.2.2.1, x675000, x675001, x675002)))))
def spec_DrawDoesFit.f (k : Nat) (l0 : List Int) : Option (Int × Int × Int × Int × Int × Int) := (spec_l1Cur_hidden.f l0 0 0).bind fun bt669 => ((spec_l1Cur_pick.f l0 bt669.2.2.2.1 bt669.2.2.2.2 10000).bind fun bt675 => ((spec_MakePuzzle.f k bt669.1 bt669.2.1 bt669.2.2.1 1 bt675.1).bind fun bt678 => (if bt678.2.2 = true then ((spec_l1Cur_one.f l0 bt675.2.1 bt675.2.2 3).bind fun bt684 => (spec_DrawDoesFit.j0 k bt684.1 l0 bt684.2.1 bt684.2.2 bt669.1 bt669.2.1 bt669.2.2.1 bt678.1 bt678.2.1)) else (spec_DrawDoesFit.j0 k false l0 bt675.2.1 bt675.2.2 bt669.1 bt669.2.1 bt669.2.2.1 bt678.1 bt678.2.1))))
def spec_DrawDoesFit.T3 : Bool × List (List Nat × List Nat) := (true, [([], []), ([], []), ([1], [1]), ([0, 2, 2], [0, 2]), ([3], [3]), ([4], [4]), ([4], [4]), ([], []), ([7, 5, 3, 0, 1, 2, 3, 4, 5, 7], [5, 7]), ([6, 8, 0, 1, 2, 3, 4, 5, 6, 7, 8], [6])])
def spec_DrawDoesFit.B3 : List Nat := [0, 0, 2, 7, 15, 31, 31, 0, 191, 511]
theorem spec_DrawDoesFit.tab3 : rtab .any (opsOf Try.f27 3) = spec_DrawDoesFit.T3 := by kernel_rfl
theorem spec_DrawDoesFit.bits3 : waitsOk spec_DrawDoesFit.T3.2 spec_DrawDoesFit.B3 = true := by kernel_rfl
set_option maxHeartbeats 8000000 in
set_option maxRecDepth 100000 in
theorem spec_DrawDoesFit.calls (k : Nat) (A0 : Option Addr) (c0 : Nat) (l0 : List Int) (r1 : Int) (r2 : Int) (r3 : Int) (r4 : Int) (r5 : Int) (r6 : Int) (w : World) (hr0 : Kd.C (Kd.int .u8) w A0 l0.length l0) (hc0 : l0.length ≤ c0) (h : spec_DrawDoesFit.f k l0 = some (r1, r2, r3, r4, r5, r6)) :
  Calls Try.prog 27 #[.slice A0 l0.length c0] w fun e w' => e = .returned (.tuple #[.agg #[.int .i64 r1, .int .i64 r2, .int .i64 r3], .agg #[.int .i64 r4, .int .i64 r5, .int .i64 r6]]) ∧ Below w.heap.size w w' := by
 have hu39 := Try.underlying39; have hu25 := Try.underlying25; have hu65 := Try.underlying65; have hu30 := Try.underlying30; have HR0 := Aside0.mk hr0; have HC0 := Aside0.mk hc0; clear hr0 hc0
 have HB := Aside0.mk (Below.refl w.heap.size w)
 have H : ((spec_l1Cur_hidden.f l0 0 0).bind fun bt669 => ((spec_l1Cur_pick.f l0 bt669.2.2.2.1 bt669.2.2.2.2 10000).bind fun bt675 => ((spec_MakePuzzle.f k bt669.1 bt669.2.1 bt669.2.2.1 1 bt675.1).bind fun bt678 => (if bt678.2.2 = true then ((spec_l1Cur_one.f l0 bt675.2.1 bt675.2.2 3).bind fun bt684 => (spec_DrawDoesFit.j0 k bt684.1 l0 bt684.2.1 bt684.2.2 bt669.1 bt669.2.1 bt669.2.2.1 bt678.1 bt678.2.1)) else (spec_DrawDoesFit.j0 k false l0 bt675.2.1 bt675.2.2 bt669.1 bt669.2.1 bt669.2.2.1 bt678.1 bt678.2.1))))) = some (r1, r2, r3, r4, r5, r6) := h
 clear h; replace H := Option.bind_eq_some_iff.mp H; obtain ⟨⟨t669, t670, t671, t672, t673⟩, A20, H⟩ := H; (try dsimp only at H); have A2 := Aside0.mk A20; clear A20; replace H := Option.bind_eq_some_iff.mp H; obtain ⟨⟨t675, t676, t677⟩, A30, H⟩ := H; (try dsimp only at H); have A3 := Aside0.mk A30; clear A30; replace H := Option.bind_eq_some_iff.mp H; obtain ⟨⟨t678, t679, t682⟩, A40, H⟩ := H; (try dsimp only at H); have A4 := Aside0.mk A40; clear A40; have HC5 := Aside0.mk H; clear H
 go_enter Try.func27, Try.ntmps27
 try go_wp2_with (first | ((with_reducible refine gate_dst (N := 2) rfl ?_); refine zE 2 #[.int .i64 0, .int .i64 0, .int .i64 0] 39 ?_; intro gb666 hg w6 hbox hb; have BK666 := Aside0.mk (hbox); have GW666 := zg HB hg; have GE666 := GW666; replace HB := zh HB hb; clear hb hbox hg) | ((with_reducible refine gate_dst (N := 3) rfl ?_); refine zE 3 #[.int .i64 0, .int .i64 0, .int .i64 0] 25 ?_; intro gb667 hg w7 hbox hb; have BK667 := Aside0.mk (hbox); have GW667 := zg HB hg; have GE667 := GW667; have NB666_667 := zl BK666 hg; have NB667_666 := zr BK666 hg; replace BK666 := zb BK666 hb; replace HB := zh HB hb; clear hb hbox hg) | ((with_reducible refine gate_dst (N := 10) rfl ?_); refine zE 10 #[.slice A0 l0.length c0, .int .i64 0, .int .u64 0] 65 ?_; intro gb668 hg w8 hbox hb; have HI668 := Aside0.mk ((show IsS65 w _ gb668 l0 0 0 from ⟨_, _, hbox, (by rw [hg]; exact (below_size (zy HB)) : w.heap.size ≤ gb668), HR0.out⟩)); have GW668 := zg HB hg; have GE668 := GW668; have NB666_668 := zl BK666 hg; have NB668_666 := zr BK666 hg; have NB667_668 := zl BK667 hg; have NB668_667 := zr BK667 hg; replace BK666 := zb BK666 hb; replace BK667 := zb BK667 hb; replace HB := zh HB hb; clear hb hbox hg) | ((with_reducible refine gate_callee (f := 35) rfl ?_); refine zG (some 12) Try.func35 #[.pointer (some ⟨gb668, 0, none⟩)] ?_; (with_reducible refine (spec_l1Cur_hidden.calls gb668 l0 0 0 t669 t670 t671 t672 t673 w _ ?side1 ?side2 A2.out).mono ?_); (case side1 => exact zI65 HI668); (case side2 => exact zY65 HB); rintro e w9 ⟨rfl, hi, hb, hk⟩; refine ⟨_, rfl, ?_⟩; replace BK666 := zKB BK666 hk; replace BK667 := zKB BK667 hk; replace HB := Aside0.mk hb; replace HI668 := Aside0.mk hi; clear hb hk hi) | ((with_reducible refine gate_dst (N := 5) rfl ?_); refine zE 5 #[.int .i64 0, .int .i64 0, .int .i64 0] 25 ?_; intro gb674 hg w10 hbox hb; have BK674 := Aside0.mk (hbox); have GW674 := Aside0.mk ((by rw [hg]; exact (below_size (zY65 HB)) : w.heap.size ≤ gb674)); have GE674 := Aside0.mk ((by rw [hg]; exact (below_size (zY65 HB)) : w.heap.size ≤ gb674)); have NB666_674 := zl BK666 hg; have NB674_666 := zr BK666 hg; have NB667_674 := zl BK667 hg; have NB674_667 := zr BK667 hg; have NB668_674 := zL65 HI668 hg; have NB674_668 := zR65 HI668 hg; replace BK666 := zb BK666 hb; replace BK667 := zb BK667 hb; replace HI668 := zJ65 HI668 hb; replace HB := zH65 HB hb; clear hb hbox hg; have hnb11 := NB674_666.out; have hnc11 := NB666_674.out; have hnb12 := NB674_667.out; have hnc12 := NB667_674.out; have hnb13 := NB674_668.out; have hnc13 := NB668_674.out; obtain ⟨_, _, _, _, _, _⟩ := zc3 BK674))
 have n0_ : Aside0 ((((w10.setCell ⟨gb674, 0, none⟩ (.int .i64 t669)).setCell ⟨gb674, 1, none⟩ (.int .i64 t670)).setCell ⟨gb674, 2, none⟩ (.int .i64 t671)).heap[gb666]? = some (.cells #[.int .i64 0, .int .i64 0, .int .i64 0] 39 (0, 0))) := ⟨zw BK666⟩
 have n1_ : Aside0 ((((w10.setCell ⟨gb674, 0, none⟩ (.int .i64 t669)).setCell ⟨gb674, 1, none⟩ (.int .i64 t670)).setCell ⟨gb674, 2, none⟩ (.int .i64 t671)).heap[gb667]? = some (.cells #[.int .i64 0, .int .i64 0, .int .i64 0] 25 (0, 0))) := ⟨zw BK667⟩
 have n2_ : Aside0 ((((w10.setCell ⟨gb674, 0, none⟩ (.int .i64 t669)).setCell ⟨gb674, 1, none⟩ (.int .i64 t670)).setCell ⟨gb674, 2, none⟩ (.int .i64 t671)).heap[gb674]? = some (.cells #[.int .i64 t669, .int .i64 t670, .int .i64 t671] 25 (0, 0))) := ⟨zw BK674⟩
 have n3_ : Aside0 (IsS65 w (((w10.setCell ⟨gb674, 0, none⟩ (.int .i64 t669)).setCell ⟨gb674, 1, none⟩ (.int .i64 t670)).setCell ⟨gb674, 2, none⟩ (.int .i64 t671)) gb668 l0 t672 t673) := ⟨(zI65 HI668)⟩
 have n4_ : Aside0 (Below w.heap.size w (((w10.setCell ⟨gb674, 0, none⟩ (.int .i64 t669)).setCell ⟨gb674, 1, none⟩ (.int .i64 t670)).setCell ⟨gb674, 2, none⟩ (.int .i64 t671))) := ⟨zY65 HB⟩
 (try clear BK666)
 (try clear BK667)
 (try clear BK674)
 (try clear HI668)
 (try clear HB)
 generalize (((w10.setCell ⟨gb674, 0, none⟩ (.int .i64 t669)).setCell ⟨gb674, 1, none⟩ (.int .i64 t670)).setCell ⟨gb674, 2, none⟩ (.int .i64 t671)) = w15 at n0_ n1_ n2_ n3_ n4_ ⊢
 have BK666 := n0_; have BK667 := n1_; have BK674 := n2_; have HI668 := n3_; have HB := n4_; clear n0_ n1_ n2_ n3_ n4_
 have n3_ := Aside0.mk (IsS65.drew HI668.out)
 replace BK666 := Aside0.mk (blk_drew BK666.out); replace BK667 := Aside0.mk (blk_drew BK667.out); replace BK674 := Aside0.mk (blk_drew BK674.out); replace HB := Aside0.mk (below_drew1 HB.out); clear HI668; have HI668 := n3_; clear n3_
 refine start_ (n := 10) (S := fun w' => w'.cell? ⟨gb674, 0, none⟩ = some (.int .i64 t669) ∧ w'.cell? ⟨gb674, 1, none⟩ = some (.int .i64 t670) ∧ w'.cell? ⟨gb674, 2, none⟩ = some (.int .i64 t671)) (ds := []) #[false, false, false, false, false, false, false, false, false, false] (by kernel_rfl) rfl rfl ⟨(blk_cell BK674.out 0).trans rfl, (blk_cell BK674.out 1).trans rfl, (blk_cell BK674.out 2).trans rfl⟩ (fun hHeld => ?_); refine with_tabW spec_DrawDoesFit.tab3 spec_DrawDoesFit.bits3 (fun HT_ HW_ => ?_)
 generalize w15.drew = w16 at BK666 BK667 BK674 HI668 HB hHeld ⊢
 refine zA 1 15 HT_ ?_
 refine zT 0 14 HT_ HW_ hHeld ?_
 refine join_ (σ := Value × Nat) 2 #[true, true, true, true, true, true, true, true, false, false] (fun s_ => [(16, .int .i64 t675), (17, .tuple #[.agg #[.int .i64 t678, s_.1], .bool t682]), (6, .pointer (some ⟨s_.2, 0, none⟩)), (13, .tuple #[.agg #[.int .i64 t678, s_.1], .bool t682]), (18, .agg #[.int .i64 t678, s_.1]), (19, .bool t682)]) (fun s_ w' => (w'.cell? ⟨gb674, 0, none⟩ = some (.int .i64 t669) ∧ w'.cell? ⟨gb674, 1, none⟩ = some (.int .i64 t670) ∧ w'.cell? ⟨gb674, 2, none⟩ = some (.int .i64 t671)) ∧ (Kd.R k39 39 w' w.heap.size (fun k_ => k_ ≠ gb666) s_.1 t679) ∧ (w'.heap[gb666]? = some (.cells #[.int .i64 0, .int .i64 0, .int .i64 0] 39 (0, 0))) ∧ (w'.heap[gb667]? = some (.cells #[.int .i64 0, .int .i64 0, .int .i64 0] 25 (0, 0))) ∧ (w'.heap[gb674]? = some (.cells #[.int .i64 t669, .int .i64 t670, .int .i64 t671] 25 (0, 0))) ∧ (w'.heap[s_.2]? = some (.cells #[.int .i64 0, .slice none 0 0] 30 (0, 0))) ∧ (w.heap.size ≤ s_.2) ∧ (w.heap.size ≤ s_.2) ∧ (gb668 ≠ s_.2) ∧ (s_.2 ≠ gb668) ∧ (gb666 ≠ s_.2) ∧ (s_.2 ≠ gb666) ∧ (gb667 ≠ s_.2) ∧ (s_.2 ≠ gb667) ∧ (gb674 ≠ s_.2) ∧ (s_.2 ≠ gb674) ∧ (IsS65 w w' gb668 l0 t676 t677) ∧ (Below w.heap.size w w')) ?_ ?_
 rotate_left
 ·intro hCont
  refine two_ (i := 2) (j := 7) (Ni := some 16) (Nj := some 6) #[true, true, true, false, false, false, false, false, false, false] #[true, true, false, false, false, false, false, true, false, false] rfl rfl rfl rfl (two_of HT_.out (by kernel_rfl)) (by decide) (by decide) (fun K hK => ?_) (fun K hK => ?_)
  ·skip
   refine goes_ Try.func36 (by kernel_rfl) rfl #[.pointer (some ⟨gb668, 0, none⟩), .int .i64 10000] (by rfl) rfl rfl zO3_3 ?_
   with_reducible refine (spec_l1Cur_pick.calls gb668 l0 t672 t673 10000 t675 t676 t677 w _ ?side1 ?side2 A3.out).mono ?_
   (case side1 => exact zI65 HI668)
   (case side2 => exact zY65 HB)
   rintro e w17 ⟨rfl, hi, hb, hk⟩
   refine ⟨_, rfl, ?_⟩
   replace BK666 := zKB BK666 hk
   replace BK667 := zKB BK667 hk
   replace BK674 := zKB BK674 hk
   replace HB := Aside0.mk hb
   replace HI668 := Aside0.mk hi
   (try clear hb)
   (try clear hb2)
   (try clear hk)
   (try clear hi)
   refine hK.out _ _ ⟨(blk_cell BK674.out 0).trans rfl, (blk_cell BK674.out 1).trans rfl, (blk_cell BK674.out 2).trans rfl⟩ (fun hHeld => ?_)
   clear hK K
   refine zN 16 ?_
   refine two_ (i := 3) (j := 7) (Ni := some 17) (Nj := some 6) #[true, true, true, true, false, false, false, false, false, false] #[true, true, true, false, false, false, false, true, false, false] rfl rfl rfl rfl (two_of HT_.out (by kernel_rfl)) (by decide) (by decide) (fun K hK => ?_) (fun K hK => ?_)
   ·skip
    refine goes_ Try.func7 (by kernel_rfl) rfl #[.agg #[.int .i64 t669, .int .i64 t670, .int .i64 t671], .int .i64 1, .int .i64 t675] (by rfl) rfl rfl zO3_3 ?_
    with_reducible refine (spec_MakePuzzle.calls k t669 t670 t671 1 t675 t678 t679 t682 _ A4.out).mono ?_
    rintro e w18 ⟨v680, rfl, ho0, hb⟩
    refine ⟨_, rfl, ?_⟩
    have HO681 := Aside0.mk (Kd.R_lower (Kd.R_newB ho0 (zq BK666)) (below_size (zY65 HB)))
    replace BK666 := zb BK666 hb; replace BK667 := zb BK667 hb; replace HI668 := zJ65 HI668 hb; replace BK674 := zb BK674 hb; replace HB := zH65 HB hb
    (try clear hb)
    (try clear hb2)
    (try clear hk)
    (try clear hi)
    (try clear ho0)
    refine hK.out _ _ ⟨(blk_cell BK674.out 0).trans rfl, (blk_cell BK674.out 1).trans rfl, (blk_cell BK674.out 2).trans rfl⟩ (fun hHeld => ?_)
    clear hK K
    refine zN 17 ?_
    refine zA 4 13 HT_ ?_
    refine zA 5 18 HT_ ?_
    refine zA 6 19 HT_ ?_
    refine zO 7 (some 6) HT_ (fun K hK => ?_)
    refine box_step ?hg (N := 6) ?hd (cs := #[.int .i64 0, .slice none 0 0]) (t := 30) ?hr ?_; (case hd => rfl); (case hg => rfl); (case hr => first | (go_simp; done) | (go_simp; rfl))
    intro gb683 hg w19 hbox hb
    have BK683 := Aside0.mk (hbox)
    have GW683 := Aside0.mk ((by rw [hg]; exact (below_size (zY65 HB)) : w.heap.size ≤ gb683))
    have GE683 := Aside0.mk ((by rw [hg]; exact (below_size (zY65 HB)) : w.heap.size ≤ gb683))
    have NB666_683 := zl BK666 hg
    have NB683_666 := zr BK666 hg
    have NB667_683 := zl BK667 hg
    have NB683_667 := zr BK667 hg
    have NB674_683 := zl BK674 hg
    have NB683_674 := zr BK674 hg
    have NB668_683 := zL65 HI668 hg
    have NB683_668 := zR65 HI668 hg
    replace HO681 := zo HO681 hb; replace BK666 := zb BK666 hb; replace BK667 := zb BK667 hb; replace HI668 := zJ65 HI668 hb; replace BK674 := zb BK674 hb; replace HB := zH65 HB hb; clear hb hbox hg
    refine hK.out _ _ ⟨(blk_cell BK674.out 0).trans rfl, (blk_cell BK674.out 1).trans rfl, (blk_cell BK674.out 2).trans rfl⟩ (fun hHeld => ?_)
    clear hK K
    refine zN 6 ?_
    exact norm_ zO3_5 (hCont (v680, gb683) _ ⟨hHeld, zO3_4, (zq BK666), (zq BK667), (zq BK674), (zq BK683), GW683.out, GE683.out, NB668_683.out, NB683_668.out, NB666_683.out, NB683_666.out, NB667_683.out, NB683_667.out, NB674_683.out, NB683_674.out, ((zI65 HI668)), (zY65 HB)⟩)
   ·skip
    refine box_step ?hg (N := 6) ?hd (cs := #[.int .i64 0, .slice none 0 0]) (t := 30) ?hr ?_; (case hd => rfl); (case hg => rfl); (case hr => first | (go_simp; done) | (go_simp; rfl))
    intro gb683 hg w18 hbox hb
    have BK683 := Aside0.mk (hbox)
    have GW683 := Aside0.mk ((by rw [hg]; exact (below_size (zY65 HB)) : w.heap.size ≤ gb683))
    have GE683 := Aside0.mk ((by rw [hg]; exact (below_size (zY65 HB)) : w.heap.size ≤ gb683))
    have NB666_683 := zl BK666 hg
    have NB683_666 := zr BK666 hg
    have NB667_683 := zl BK667 hg
    have NB683_667 := zr BK667 hg
    have NB674_683 := zl BK674 hg
    have NB683_674 := zr BK674 hg
    have NB668_683 := zL65 HI668 hg
    have NB683_668 := zR65 HI668 hg
    replace BK666 := zb BK666 hb; replace BK667 := zb BK667 hb; replace HI668 := zJ65 HI668 hb; replace BK674 := zb BK674 hb; replace HB := zH65 HB hb; clear hb hbox hg
    refine hK.out _ _ ⟨(blk_cell BK674.out 0).trans rfl, (blk_cell BK674.out 1).trans rfl, (blk_cell BK674.out 2).trans rfl⟩ (fun hHeld => ?_)
    clear hK K
    refine zN 6 ?_
    refine zO 3 (some 17) HT_ (fun K hK => ?_)
    refine goes_ Try.func7 (by kernel_rfl) rfl #[.agg #[.int .i64 t669, .int .i64 t670, .int .i64 t671], .int .i64 1, .int .i64 t675] (by rfl) rfl rfl zO3_3 ?_
    with_reducible refine (spec_MakePuzzle.calls k t669 t670 t671 1 t675 t678 t679 t682 _ A4.out).mono ?_
    rintro e w19 ⟨v680, rfl, ho0, hb⟩
    refine ⟨_, rfl, ?_⟩
    have HO681 := Aside0.mk (Kd.R_lower (Kd.R_newB ho0 (zq BK666)) (below_size (zY65 HB)))
    replace BK666 := zb BK666 hb; replace BK667 := zb BK667 hb; replace HI668 := zJ65 HI668 hb; replace BK674 := zb BK674 hb; replace BK683 := zb BK683 hb; replace HB := zH65 HB hb
    (try clear hb)
    (try clear hb2)
    (try clear hk)
    (try clear hi)
    (try clear ho0)
    refine hK.out _ _ ⟨(blk_cell BK674.out 0).trans rfl, (blk_cell BK674.out 1).trans rfl, (blk_cell BK674.out 2).trans rfl⟩ (fun hHeld => ?_)
    clear hK K
    refine zN 17 ?_
    refine zA 4 13 HT_ ?_
    refine zA 5 18 HT_ ?_
    refine zA 6 19 HT_ ?_
    exact norm_ zO3_5 (hCont (v680, gb683) _ ⟨hHeld, zO3_4, (zq BK666), (zq BK667), (zq BK674), (zq BK683), GW683.out, GE683.out, NB668_683.out, NB683_668.out, NB666_683.out, NB683_666.out, NB667_683.out, NB683_667.out, NB674_683.out, NB683_674.out, ((zI65 HI668)), (zY65 HB)⟩)
  ·skip
   refine box_step ?hg (N := 6) ?hd (cs := #[.int .i64 0, .slice none 0 0]) (t := 30) ?hr ?_; (case hd => rfl); (case hg => rfl); (case hr => first | (go_simp; done) | (go_simp; rfl))
   intro gb683 hg w17 hbox hb
   have BK683 := Aside0.mk (hbox)
   have GW683 := Aside0.mk ((by rw [hg]; exact (below_size (zY65 HB)) : w.heap.size ≤ gb683))
   have GE683 := Aside0.mk ((by rw [hg]; exact (below_size (zY65 HB)) : w.heap.size ≤ gb683))
   have NB666_683 := zl BK666 hg
   have NB683_666 := zr BK666 hg
   have NB667_683 := zl BK667 hg
   have NB683_667 := zr BK667 hg
   have NB674_683 := zl BK674 hg
   have NB683_674 := zr BK674 hg
   have NB668_683 := zL65 HI668 hg
   have NB683_668 := zR65 HI668 hg
   replace BK666 := zb BK666 hb; replace BK667 := zb BK667 hb; replace HI668 := zJ65 HI668 hb; replace BK674 := zb BK674 hb; replace HB := zH65 HB hb; clear hb hbox hg
   refine hK.out _ _ ⟨(blk_cell BK674.out 0).trans rfl, (blk_cell BK674.out 1).trans rfl, (blk_cell BK674.out 2).trans rfl⟩ (fun hHeld => ?_)
   clear hK K
   refine zN 6 ?_
   refine zO 2 (some 16) HT_ (fun K hK => ?_)
   refine goes_ Try.func36 (by kernel_rfl) rfl #[.pointer (some ⟨gb668, 0, none⟩), .int .i64 10000] (by rfl) rfl rfl zO3_3 ?_
   with_reducible refine (spec_l1Cur_pick.calls gb668 l0 t672 t673 10000 t675 t676 t677 w _ ?side1 ?side2 A3.out).mono ?_
   (case side1 => exact zI65 HI668)
   (case side2 => exact zY65 HB)
   rintro e w18 ⟨rfl, hi, hb, hk⟩
   refine ⟨_, rfl, ?_⟩
   replace BK666 := zKB BK666 hk
   replace BK667 := zKB BK667 hk
   replace BK674 := zKB BK674 hk
   replace BK683 := zKB BK683 hk
   replace HB := Aside0.mk hb
   replace HI668 := Aside0.mk hi
   (try clear hb)
   (try clear hb2)
   (try clear hk)
   (try clear hi)
   refine hK.out _ _ ⟨(blk_cell BK674.out 0).trans rfl, (blk_cell BK674.out 1).trans rfl, (blk_cell BK674.out 2).trans rfl⟩ (fun hHeld => ?_)
   clear hK K
   refine zN 16 ?_
   refine zO 3 (some 17) HT_ (fun K hK => ?_)
   refine goes_ Try.func7 (by kernel_rfl) rfl #[.agg #[.int .i64 t669, .int .i64 t670, .int .i64 t671], .int .i64 1, .int .i64 t675] (by rfl) rfl rfl zO3_3 ?_
   with_reducible refine (spec_MakePuzzle.calls k t669 t670 t671 1 t675 t678 t679 t682 _ A4.out).mono ?_
   rintro e w19 ⟨v680, rfl, ho0, hb⟩
   refine ⟨_, rfl, ?_⟩
   have HO681 := Aside0.mk (Kd.R_lower (Kd.R_newB ho0 (zq BK666)) (below_size (zY65 HB)))
   replace BK666 := zb BK666 hb; replace BK667 := zb BK667 hb; replace HI668 := zJ65 HI668 hb; replace BK674 := zb BK674 hb; replace BK683 := zb BK683 hb; replace HB := zH65 HB hb
   (try clear hb)
   (try clear hb2)
   (try clear hk)
   (try clear hi)
   (try clear ho0)
   refine hK.out _ _ ⟨(blk_cell BK674.out 0).trans rfl, (blk_cell BK674.out 1).trans rfl, (blk_cell BK674.out 2).trans rfl⟩ (fun hHeld => ?_)
   clear hK K
   refine zN 17 ?_
   refine zA 4 13 HT_ ?_
   refine zA 5 18 HT_ ?_
   refine zA 6 19 HT_ ?_
   exact norm_ zO3_5 (hCont (v680, gb683) _ ⟨hHeld, zO3_4, (zq BK666), (zq BK667), (zq BK674), (zq BK683), GW683.out, GE683.out, NB668_683.out, NB683_668.out, NB666_683.out, NB683_666.out, NB667_683.out, NB683_667.out, NB674_683.out, NB683_674.out, ((zI65 HI668)), (zY65 HB)⟩)
 rintro ⟨v680, gb683⟩ w20 ⟨hS_, h0_, h1_, h2_, h3_, h4_, h5_, h6_, h7_, h8_, h9_, h10_, h11_, h12_, h13_, h14_, h15_, h16_⟩
 have n0_ : Aside0 (Kd.R k39 39 w20 w.heap.size (fun k_ => k_ ≠ gb666) v680 t679) := ⟨h0_⟩
 have n1_ : Aside0 (w20.heap[gb666]? = some (.cells #[.int .i64 0, .int .i64 0, .int .i64 0] 39 (0, 0))) := ⟨h1_⟩
 have n2_ : Aside0 (w20.heap[gb667]? = some (.cells #[.int .i64 0, .int .i64 0, .int .i64 0] 25 (0, 0))) := ⟨h2_⟩
 have n3_ : Aside0 (w20.heap[gb674]? = some (.cells #[.int .i64 t669, .int .i64 t670, .int .i64 t671] 25 (0, 0))) := ⟨h3_⟩
 have n4_ : Aside0 (w20.heap[gb683]? = some (.cells #[.int .i64 0, .slice none 0 0] 30 (0, 0))) := ⟨h4_⟩
 have n5_ : Aside0 (w.heap.size ≤ gb683) := ⟨h5_⟩
 have n6_ : Aside0 (w.heap.size ≤ gb683) := ⟨h6_⟩
 have n7_ : Aside0 (gb668 ≠ gb683) := ⟨h7_⟩
 have n8_ : Aside0 (gb683 ≠ gb668) := ⟨h8_⟩
 have n9_ : Aside0 (gb666 ≠ gb683) := ⟨h9_⟩
 have n10_ : Aside0 (gb683 ≠ gb666) := ⟨h10_⟩
 have n11_ : Aside0 (gb667 ≠ gb683) := ⟨h11_⟩
 have n12_ : Aside0 (gb683 ≠ gb667) := ⟨h12_⟩
 have n13_ : Aside0 (gb674 ≠ gb683) := ⟨h13_⟩
 have n14_ : Aside0 (gb683 ≠ gb674) := ⟨h14_⟩
 have n15_ : Aside0 (IsS65 w w20 gb668 l0 t676 t677) := ⟨h15_⟩
 have n16_ : Aside0 (Below w.heap.size w w20) := ⟨h16_⟩
 clear BK666; clear BK667; clear BK674; clear HI668; clear HB; clear h0_ h1_ h2_ h3_ h4_ h5_ h6_ h7_ h8_ h9_ h10_ h11_ h12_ h13_ h14_ h15_ h16_; have HO681 := n0_; have BK666 := n1_; have BK667 := n2_; have BK674 := n3_; have BK683 := n4_; have GW683 := n5_; have GE683 := n6_; have NB668_683 := n7_; have NB683_668 := n8_; have NB666_683 := n9_; have NB683_666 := n10_; have NB667_683 := n11_; have NB683_667 := n12_; have NB674_683 := n13_; have NB683_674 := n14_; have HI668 := n15_; have HB := n16_; clear n0_ n1_ n2_ n3_ n4_ n5_ n6_ n7_ n8_ n9_ n10_ n11_ n12_ n13_ n14_ n15_ n16_
 have hHeld : w20.cell? ⟨gb674, 0, none⟩ = some (.int .i64 t669) ∧ w20.cell? ⟨gb674, 1, none⟩ = some (.int .i64 t670) ∧ w20.cell? ⟨gb674, 2, none⟩ = some (.int .i64 t671) := hS_
 obtain ⟨Ao22, co22, eo22⟩ := Kd.R_slice HO681.out
 (first | subst eo22 | (injection eo22 with f1_ f2_ f3_; have f4_ := f1_.symm; have f5_ := f3_.symm; clear f1_ f2_ f3_; subst f4_; subst f5_))
 refine norm_ (a' := ?_) ?_ ?_
 rotate_left
 ·simp only [putAll, Act.put, List.setIfInBounds_toArray, List.set_cons_zero, List.set_cons_succ]
  rfl
 refine zO 8 none HT_ (fun K hK => ?_)
 have hs21 : w20.cell? ⟨gb683, 0, none⟩ = some (.int .i64 0) := (blk_cell BK683.out 0).trans rfl
 have hfs21 := blk_frozen BK683.out 0
 have hns21_0 := NB666_683.out; have hns21_1 := NB667_683.out; have hns21_2 := NB674_683.out; have hms21_0 := NB683_666.out; have hms21_1 := NB683_667.out; have hms21_2 := NB683_674.out
 have hs23 : w20.cell? ⟨gb683, 1, none⟩ = some (.slice none 0 0) := (blk_cell BK683.out 1).trans rfl
 have hfs23 := blk_frozen BK683.out 1
 have hns23_0 := NB666_683.out; have hns23_1 := NB667_683.out; have hns23_2 := NB674_683.out; have hms23_0 := NB683_666.out; have hms23_1 := NB683_667.out; have hms23_2 := NB683_674.out
 refine skip_ (w1 := ?_) (by rfl) rfl ?_ ?_
 rotate_left
 ·go_simp
  rfl
 refine hK.out _ _ ⟨((cell_far (p := ⟨gb683, _, none⟩) NB674_683.out _).trans (((cell_far (p := ⟨gb683, _, none⟩) NB674_683.out _).trans (hHeld.1)))), ((cell_far (p := ⟨gb683, _, none⟩) NB674_683.out _).trans (((cell_far (p := ⟨gb683, _, none⟩) NB674_683.out _).trans (hHeld.2.1)))), ((cell_far (p := ⟨gb683, _, none⟩) NB674_683.out _).trans (((cell_far (p := ⟨gb683, _, none⟩) NB674_683.out _).trans (hHeld.2.2))))⟩ (fun hHeld => ?_)
 clear hK K
 refine zA 9 7 HT_ ?_
 refine done_ (done_of HT_.out (by kernel_rfl)) ?_
 go_upto_region 4 with (fail)
 go_cut [24] (fun v24 wc => ∃ (kq : Nat) (x24_4 : Bool) (x669001_4 : Int) (x669002_4 : Int), v24 = .bool x24_4 ∧ Aside0 (spec_DrawDoesFit.j0 kq x24_4 l0 x669001_4 x669002_4 t669 t670 t671 t678 t679 = some (r1, r2, r3, r4, r5, r6)) ∧ Aside0 (kq ≤ k) ∧ Aside0 (Kd.R k39 39 wc w.heap.size (fun k_ => k_ ≠ gb666) (.slice Ao22 t679.length co22) t679) ∧ Aside0 (wc.heap[gb666]? = some (.cells #[.int .i64 0, .int .i64 0, .int .i64 0] 39 (0, 0))) ∧ Aside0 (wc.heap[gb667]? = some (.cells #[.int .i64 0, .int .i64 0, .int .i64 0] 25 (0, 0))) ∧ Aside0 (wc.heap[gb674]? = some (.cells #[.int .i64 t669, .int .i64 t670, .int .i64 t671] 25 (0, 0))) ∧ Aside0 (wc.heap[gb683]? = some (.cells #[.int .i64 t678, (.slice Ao22 t679.length co22)] 30 (0, 0))) ∧ Aside0 (IsS65 w wc gb668 l0 x669001_4 x669002_4) ∧ Aside0 (Below w.heap.size w wc))
 case first =>
  have H := HC5.out; clear HC5
  by_cases c24 : t682 = true
  ·subst c24
   rw [if_pos rfl] at H; replace H := Option.bind_eq_some_iff.mp H; obtain ⟨⟨t684, t685, t686⟩, A250, H⟩ := H
   replace H : (spec_DrawDoesFit.j0 k t684 l0 t685 t686 t669 t670 t671 t678 t679) = some (r1, r2, r3, r4, r5, r6) := H
   have A25 := Aside0.mk A250; clear A250; have H' := Aside0.mk H; clear H
   go_wp2_with (first | (go_at_call 32; (with_reducible refine (spec_l1Cur_one.calls gb668 l0 t676 t677 3 t684 t685 t686 w _ ?side1 ?side2 A25.out).mono ?_); (case side1 => exact zI65 HI668); (case side2 => exact zY65 HB); rintro e w26 ⟨rfl, hi, hb, hk⟩; have n3_ := Aside0.mk (Kd.R_mono (Kd.R_keep (IsS65.apart (show IsS65 w _ gb668 l0 t676 t677 from (zI65 HI668)) (by (with_reducible repeat (first | apply Kd.R_alloc | apply Kd.R_drewN | apply Kd.R_drew)); exact (Kd.R_mono (Kd.R_far (p := ⟨gb683, 1, none⟩) (Kd.R_far (p := ⟨gb683, 0, none⟩) (Kd.R_types HO681.out BK683.out (by decide)) (fun _ hk => hk.2) (.int .i64 t678)) (fun _ hk => hk.2) (.slice Ao22 t679.length co22)) (fun _ h_ => h_.1))) (by decide)) hk (fun _ h => h.2)) (fun _ h => h.1)); have n4_ := Aside0.mk (KeepBut.blk hk (g' := gb683) (o := .cells #[.int .i64 t678, .slice Ao22 t679.length co22] 30 (0, 0)) (zw BK683) NB683_668.out (by simp)); replace BK666 := zKB BK666 hk; replace BK667 := zKB BK667 hk; replace BK674 := zKB BK674 hk; replace HB := Aside0.mk hb; replace HI668 := Aside0.mk hi; clear HO681; have HO681 := n3_; clear n3_; clear BK683; have BK683 := n4_; clear n4_; clear hb hk hi))
   go_meet
   case rel => exact ⟨_, (t684), (t685), (t686), zu, H', ⟨by first | omega | exact Nat.le_refl _⟩, zp HO681, zk BK666, zk BK667, zk BK674, zk BK683, ⟨(zI65 HI668)⟩, ⟨zY65 HB⟩⟩
  ·replace c24 := Bool.eq_false_iff.mpr c24
   subst c24; rw [if_neg (show ¬ (false = true) by decide)] at H; have H' := Aside0.mk H; clear H
   go_wp2
   go_meet
   case rel => exact ⟨_, (false), (t676), (t677), zu, H', ⟨by first | omega | exact Nat.le_refl _⟩, ⟨by (with_reducible repeat (first | apply Kd.R_alloc | apply Kd.R_drewN | apply Kd.R_drew)); exact Kd.R_mono (Kd.R_far (p := ⟨gb683, 1, none⟩) (Kd.R_far (p := ⟨gb683, 0, none⟩) (Kd.R_types HO681.out BK683.out (by decide)) (fun _ hk => hk.2) (.int .i64 t678)) (fun _ hk => hk.2) (.slice Ao22 t679.length co22)) (fun _ hk => hk.1)⟩, zk BK666, zk BK667, zk BK674, ⟨zw BK683⟩, ⟨(zI65 HI668)⟩, ⟨zY65 HB⟩⟩
 case rest =>
  clear HC5
  obtain ⟨kq, x24_4, x669001_4, x669002_4, rfl, HA, HJ4, HO_684001, BK666, BK667, BK674, BK683, HI668, HB⟩ := hcut
  cases kq with
  | zero => exact absurd HA.out (by simp [spec_DrawDoesFit.j0])
  | succ kj4 =>
   have H := HA.out; clear HA; simp only [spec_DrawDoesFit.j0] at H
   by_cases c27 : x24_4 = true
   ·subst c27
    rw [if_pos rfl] at H
    by_cases c28 : 0 < (t679.length : Int)
    ·rw [if_pos c28] at H
     have c28b0 : decide (0 < (t679.length : Int)) = true := decide_eq_true c28
     have c28b1 : decide (0 < t679.length) = true := decide_eq_true (by omega)
     clear c28; simp only [Option.some.injEq, Prod.mk.injEq] at H; obtain ⟨rfl, rfl, rfl, rfl, rfl, rfl⟩ := H
     try go_wp2
     have n5_ := Aside0.mk (IsS65.drew HI668.out)
     replace HO_684001 := Aside0.mk (Kd.R_drew HO_684001.out); replace BK666 := Aside0.mk (blk_drew BK666.out); replace BK667 := Aside0.mk (blk_drew BK667.out); replace BK674 := Aside0.mk (blk_drew BK674.out); replace BK683 := Aside0.mk (blk_drew BK683.out); replace HB := Aside0.mk (below_drew1 HB.out); clear HI668; have HI668 := n5_; clear n5_
     have p687 : 0 ≤ (0 : Int) := (by omega)
     have q687 : 0 < (t679.length : Int) := of_decide_eq_true (by first | (with_reducible assumption) | assumption)
     obtain ⟨ad687, e687, hx687_0, hx687_1, hx687_2⟩ := at_T39 (Kd.R_reads' HO_684001.out).2.2 0 p687 q687
     cases e687
     have qi687 : (0 < t679.length) = True := eq_true (by omega)
     (try rw [show ((0 : Int)).toNat = 0 from rfl] at hx687_0)
     (try rw [show 0 * 3 = 0 from rfl] at hx687_0)
     (try rw [Addr.add_zero'] at hx687_0)
     (try rw [show ((0 : Int)).toNat = 0 from rfl] at hx687_1)
     (try rw [show 0 * 3 = 0 from rfl] at hx687_1)
     (try rw [Addr.add_zero'] at hx687_1)
     (try rw [show ((0 : Int)).toNat = 0 from rfl] at hx687_2)
     (try rw [show 0 * 3 = 0 from rfl] at hx687_2)
     (try rw [Addr.add_zero'] at hx687_2)
     replace p687 := eq_true p687; replace q687 := eq_true q687
     refine start_ (n := 7) (S := fun w' => w'.cell? ⟨gb683, 0, none⟩ = some (.int .i64 t678) ∧ w'.cell? ⟨gb683, 1, none⟩ = some (.slice (some ad687) t679.length co22) ∧ w'.cell? ⟨gb674, 0, none⟩ = some (.int .i64 t669) ∧ w'.cell? ⟨gb674, 1, none⟩ = some (.int .i64 t670) ∧ w'.cell? ⟨gb674, 2, none⟩ = some (.int .i64 t671) ∧ w'.cell? ad687 = some (.int .i64 ((rd_T39 t679 0).f0)) ∧ w'.cell? ⟨ad687.block, ad687.off + 1, none⟩ = some (.int .i64 ((rd_T39 t679 0).f1)) ∧ w'.cell? ⟨ad687.block, ad687.off + 2, none⟩ = some (.int .i64 ((rd_T39 t679 0).f2))) (ds := []) #[false, false, false, false, false, false, false] (by kernel_rfl) rfl rfl ⟨(blk_cell BK683.out 0).trans rfl, (blk_cell BK683.out 1).trans rfl, (blk_cell BK674.out 0).trans rfl, (blk_cell BK674.out 1).trans rfl, (blk_cell BK674.out 2).trans rfl, hx687_0, hx687_1, hx687_2⟩ (fun hHeld => ?_)
     generalize wc.drew = w29 at HO_684001 BK666 BK667 BK674 BK683 HI668 HB hx687_0 hx687_1 hx687_2 hHeld ⊢
     refine zA0 0 25 ?_
     refine zT0 1 26 hHeld ?_
     refine zA0 2 27 ?_
     refine zT0 3 28 hHeld ?_
     refine zT0 4 29 hHeld ?_
     refine one_ (i := 5) (N := none) #[true, true, true, true, true, true, false] rfl rfl (by kernel_rfl) (by decide) (fun K hK => ?_)
     have hs30 : w29.cell? ⟨gb666, 0, none⟩ = some (.int .i64 0) := (blk_cell BK666.out 0).trans rfl
     have hfs30 := blk_frozen BK666.out 0
     have hns30_1 := NB667_666.out; have hns30_2 := NB674_666.out; have hns30_3 := NB683_666.out; have hms30_1 := NB666_667.out; have hms30_2 := NB666_674.out; have hms30_3 := NB666_683.out
     have hs31 : w29.cell? ⟨gb666, 1, none⟩ = some (.int .i64 0) := (blk_cell BK666.out 1).trans rfl
     have hfs31 := blk_frozen BK666.out 1
     have hns31_1 := NB667_666.out; have hns31_2 := NB674_666.out; have hns31_3 := NB683_666.out; have hms31_1 := NB666_667.out; have hms31_2 := NB666_674.out; have hms31_3 := NB666_683.out
     have hs32 : w29.cell? ⟨gb666, 2, none⟩ = some (.int .i64 0) := (blk_cell BK666.out 2).trans rfl
     have hfs32 := blk_frozen BK666.out 2
     have hns32_1 := NB667_666.out; have hns32_2 := NB674_666.out; have hns32_3 := NB683_666.out; have hms32_1 := NB666_667.out; have hms32_2 := NB666_674.out; have hms32_3 := NB666_683.out
     refine skip_ (w1 := ?_) (by rfl) rfl ?_ ?_
     rotate_left
     ·go_simp
      rfl
     refine hK.out _ _ ⟨((cell_far (p := ⟨gb666, _, none⟩) NB683_666.out _).trans (((cell_far (p := ⟨gb666, _, none⟩) NB683_666.out _).trans (((cell_far (p := ⟨gb666, _, none⟩) NB683_666.out _).trans (hHeld.1)))))), ((cell_far (p := ⟨gb666, _, none⟩) NB683_666.out _).trans (((cell_far (p := ⟨gb666, _, none⟩) NB683_666.out _).trans (((cell_far (p := ⟨gb666, _, none⟩) NB683_666.out _).trans (hHeld.2.1)))))), ((cell_far (p := ⟨gb666, _, none⟩) NB674_666.out _).trans (((cell_far (p := ⟨gb666, _, none⟩) NB674_666.out _).trans (((cell_far (p := ⟨gb666, _, none⟩) NB674_666.out _).trans (hHeld.2.2.1)))))), ((cell_far (p := ⟨gb666, _, none⟩) NB674_666.out _).trans (((cell_far (p := ⟨gb666, _, none⟩) NB674_666.out _).trans (((cell_far (p := ⟨gb666, _, none⟩) NB674_666.out _).trans (hHeld.2.2.2.1)))))), ((cell_far (p := ⟨gb666, _, none⟩) NB674_666.out _).trans (((cell_far (p := ⟨gb666, _, none⟩) NB674_666.out _).trans (((cell_far (p := ⟨gb666, _, none⟩) NB674_666.out _).trans (hHeld.2.2.2.2.1)))))), ((cell_far (p := ⟨gb666, _, none⟩) zO3_0 _).trans (((cell_far (p := ⟨gb666, _, none⟩) zO3_0 _).trans (((cell_far (p := ⟨gb666, _, none⟩) zO3_0 _).trans (hHeld.2.2.2.2.2.1)))))), ((cell_far (p := ⟨gb666, _, none⟩) zO3_0 _).trans (((cell_far (p := ⟨gb666, _, none⟩) zO3_0 _).trans (((cell_far (p := ⟨gb666, _, none⟩) zO3_0 _).trans (hHeld.2.2.2.2.2.2.1)))))), ((cell_far (p := ⟨gb666, _, none⟩) zO3_0 _).trans (((cell_far (p := ⟨gb666, _, none⟩) zO3_0 _).trans (((cell_far (p := ⟨gb666, _, none⟩) zO3_0 _).trans (hHeld.2.2.2.2.2.2.2))))))⟩ (fun hHeld => ?_)
     clear hK K
     refine one_ (i := 6) (N := none) #[true, true, true, true, true, true, true] rfl rfl (by kernel_rfl) (by decide) (fun K hK => ?_)
     have hs33 : w29.cell? ⟨gb667, 0, none⟩ = some (.int .i64 0) := (blk_cell BK667.out 0).trans rfl
     have hfs33 := blk_frozen BK667.out 0
     have hns33_0 := NB666_667.out; have hns33_2 := NB674_667.out; have hns33_3 := NB683_667.out; have hms33_0 := NB667_666.out; have hms33_2 := NB667_674.out; have hms33_3 := NB667_683.out
     have hs34 : w29.cell? ⟨gb667, 1, none⟩ = some (.int .i64 0) := (blk_cell BK667.out 1).trans rfl
     have hfs34 := blk_frozen BK667.out 1
     have hns34_0 := NB666_667.out; have hns34_2 := NB674_667.out; have hns34_3 := NB683_667.out; have hms34_0 := NB667_666.out; have hms34_2 := NB667_674.out; have hms34_3 := NB667_683.out
     have hs35 : w29.cell? ⟨gb667, 2, none⟩ = some (.int .i64 0) := (blk_cell BK667.out 2).trans rfl
     have hfs35 := blk_frozen BK667.out 2
     have hns35_0 := NB666_667.out; have hns35_2 := NB674_667.out; have hns35_3 := NB683_667.out; have hms35_0 := NB667_666.out; have hms35_2 := NB667_674.out; have hms35_3 := NB667_683.out
     refine skip_ (w1 := ?_) (by rfl) rfl ?_ ?_
     rotate_left
     ·go_simp
      rfl
     refine hK.out _ _ ⟨((cell_far (p := ⟨gb667, _, none⟩) NB683_667.out _).trans (((cell_far (p := ⟨gb667, _, none⟩) NB683_667.out _).trans (((cell_far (p := ⟨gb667, _, none⟩) NB683_667.out _).trans (hHeld.1)))))), ((cell_far (p := ⟨gb667, _, none⟩) NB683_667.out _).trans (((cell_far (p := ⟨gb667, _, none⟩) NB683_667.out _).trans (((cell_far (p := ⟨gb667, _, none⟩) NB683_667.out _).trans (hHeld.2.1)))))), ((cell_far (p := ⟨gb667, _, none⟩) NB674_667.out _).trans (((cell_far (p := ⟨gb667, _, none⟩) NB674_667.out _).trans (((cell_far (p := ⟨gb667, _, none⟩) NB674_667.out _).trans (hHeld.2.2.1)))))), ((cell_far (p := ⟨gb667, _, none⟩) NB674_667.out _).trans (((cell_far (p := ⟨gb667, _, none⟩) NB674_667.out _).trans (((cell_far (p := ⟨gb667, _, none⟩) NB674_667.out _).trans (hHeld.2.2.2.1)))))), ((cell_far (p := ⟨gb667, _, none⟩) NB674_667.out _).trans (((cell_far (p := ⟨gb667, _, none⟩) NB674_667.out _).trans (((cell_far (p := ⟨gb667, _, none⟩) NB674_667.out _).trans (hHeld.2.2.2.2.1)))))), ((cell_far (p := ⟨gb667, _, none⟩) (by first | exact Kd.own_blk (Kd.R_ne HO_684001.out BK667.out (by decide)) | (rw [add_block]; exact Kd.own_blk (Kd.R_ne HO_684001.out BK667.out (by decide))) | (show (Addr.add _ _).block ≠ _; rw [add_block]; exact Kd.own_blk (Kd.R_ne HO_684001.out BK667.out (by decide))) | (dsimp only; exact Kd.own_blk (Kd.R_ne HO_684001.out BK667.out (by decide)))) _).trans (((cell_far (p := ⟨gb667, _, none⟩) (by first | exact Kd.own_blk (Kd.R_ne HO_684001.out BK667.out (by decide)) | (rw [add_block]; exact Kd.own_blk (Kd.R_ne HO_684001.out BK667.out (by decide))) | (show (Addr.add _ _).block ≠ _; rw [add_block]; exact Kd.own_blk (Kd.R_ne HO_684001.out BK667.out (by decide))) | (dsimp only; exact Kd.own_blk (Kd.R_ne HO_684001.out BK667.out (by decide)))) _).trans (((cell_far (p := ⟨gb667, _, none⟩) (by first | exact Kd.own_blk (Kd.R_ne HO_684001.out BK667.out (by decide)) | (rw [add_block]; exact Kd.own_blk (Kd.R_ne HO_684001.out BK667.out (by decide))) | (show (Addr.add _ _).block ≠ _; rw [add_block]; exact Kd.own_blk (Kd.R_ne HO_684001.out BK667.out (by decide))) | (dsimp only; exact Kd.own_blk (Kd.R_ne HO_684001.out BK667.out (by decide)))) _).trans (hHeld.2.2.2.2.2.1)))))), ((cell_far (p := ⟨gb667, _, none⟩) (by first | exact Kd.own_blk (Kd.R_ne HO_684001.out BK667.out (by decide)) | (rw [add_block]; exact Kd.own_blk (Kd.R_ne HO_684001.out BK667.out (by decide))) | (show (Addr.add _ _).block ≠ _; rw [add_block]; exact Kd.own_blk (Kd.R_ne HO_684001.out BK667.out (by decide))) | (dsimp only; exact Kd.own_blk (Kd.R_ne HO_684001.out BK667.out (by decide)))) _).trans (((cell_far (p := ⟨gb667, _, none⟩) (by first | exact Kd.own_blk (Kd.R_ne HO_684001.out BK667.out (by decide)) | (rw [add_block]; exact Kd.own_blk (Kd.R_ne HO_684001.out BK667.out (by decide))) | (show (Addr.add _ _).block ≠ _; rw [add_block]; exact Kd.own_blk (Kd.R_ne HO_684001.out BK667.out (by decide))) | (dsimp only; exact Kd.own_blk (Kd.R_ne HO_684001.out BK667.out (by decide)))) _).trans (((cell_far (p := ⟨gb667, _, none⟩) (by first | exact Kd.own_blk (Kd.R_ne HO_684001.out BK667.out (by decide)) | (rw [add_block]; exact Kd.own_blk (Kd.R_ne HO_684001.out BK667.out (by decide))) | (show (Addr.add _ _).block ≠ _; rw [add_block]; exact Kd.own_blk (Kd.R_ne HO_684001.out BK667.out (by decide))) | (dsimp only; exact Kd.own_blk (Kd.R_ne HO_684001.out BK667.out (by decide)))) _).trans (hHeld.2.2.2.2.2.2.1)))))), ((cell_far (p := ⟨gb667, _, none⟩) (by first | exact Kd.own_blk (Kd.R_ne HO_684001.out BK667.out (by decide)) | (rw [add_block]; exact Kd.own_blk (Kd.R_ne HO_684001.out BK667.out (by decide))) | (show (Addr.add _ _).block ≠ _; rw [add_block]; exact Kd.own_blk (Kd.R_ne HO_684001.out BK667.out (by decide))) | (dsimp only; exact Kd.own_blk (Kd.R_ne HO_684001.out BK667.out (by decide)))) _).trans (((cell_far (p := ⟨gb667, _, none⟩) (by first | exact Kd.own_blk (Kd.R_ne HO_684001.out BK667.out (by decide)) | (rw [add_block]; exact Kd.own_blk (Kd.R_ne HO_684001.out BK667.out (by decide))) | (show (Addr.add _ _).block ≠ _; rw [add_block]; exact Kd.own_blk (Kd.R_ne HO_684001.out BK667.out (by decide))) | (dsimp only; exact Kd.own_blk (Kd.R_ne HO_684001.out BK667.out (by decide)))) _).trans (((cell_far (p := ⟨gb667, _, none⟩) (by first | exact Kd.own_blk (Kd.R_ne HO_684001.out BK667.out (by decide)) | (rw [add_block]; exact Kd.own_blk (Kd.R_ne HO_684001.out BK667.out (by decide))) | (show (Addr.add _ _).block ≠ _; rw [add_block]; exact Kd.own_blk (Kd.R_ne HO_684001.out BK667.out (by decide))) | (dsimp only; exact Kd.own_blk (Kd.R_ne HO_684001.out BK667.out (by decide)))) _).trans (hHeld.2.2.2.2.2.2.2))))))⟩ (fun hHeld => ?_)
     clear hK K
     refine done_ (by kernel_rfl) ?_
     try go_wp2
     refine bodyPost_ret (results_cc rfl _ _ gb666 gb667 39 25 #[.int .i64 ((rd_T39 t679 0).f0), .int .i64 ((rd_T39 t679 0).f1), .int .i64 ((rd_T39 t679 0).f2)] #[.int .i64 t669, .int .i64 t670, .int .i64 t671] (0, 0) (0, 0) _ _ rfl (zw BK666) Try.underlying39 rfl (by kernel_rfl) rfl (zw BK667) Try.underlying25 rfl (by kernel_rfl)) rfl ?_
     exact ⟨zt, zY65 HB⟩
    ·rw [if_neg c28] at H
     exact absurd H (by simp)
   ·replace c27 := Bool.eq_false_iff.mpr c27
    subst c27; rw [if_neg (show ¬ (false = true) by decide)] at H; replace H := Option.bind_eq_some_iff.mp H; obtain ⟨⟨t688, t689, t690⟩, A360, H⟩ := H; (try dsimp only at H); have A36 := Aside0.mk A360; clear A360
    by_cases c37 : t688 = true
    ·subst c37
     rw [if_pos rfl] at H; replace H := Option.bind_eq_some_iff.mp H; obtain ⟨⟨t691, t692, t693, t694, t695⟩, A380, H⟩ := H
     replace H : ((spec_l1Cur_clue.f kj4 l0 t694 t695).bind fun bt696 => (some (bt696.1, bt696.2.1, bt696.2.2.1, t691, t692, t693))) = some (r1, r2, r3, r4, r5, r6) := H
     have A38 := Aside0.mk A380; clear A380; replace H := Option.bind_eq_some_iff.mp H; obtain ⟨⟨t696, t697, t698, t699, t700⟩, A390, H⟩ := H
     replace H : (some (t696, t697, t698, t691, t692, t693)) = some (r1, r2, r3, r4, r5, r6) := H
     have A39 := Aside0.mk A390; clear A390; simp only [Option.some.injEq, Prod.mk.injEq] at H; obtain ⟨rfl, rfl, rfl, rfl, rfl, rfl⟩ := H
     try go_wp2_with (first | ((with_reducible refine gate_callee (f := 32) rfl ?_); refine zG (some 31) Try.func32 #[.pointer (some ⟨gb668, 0, none⟩), .int .i64 10] ?_; (with_reducible refine (spec_l1Cur_one.calls gb668 l0 x669001_4 x669002_4 10 true t689 t690 w _ ?side1 ?side2 A36.out).mono ?_); (case side1 => exact zI65 HI668); (case side2 => exact zY65 HB); rintro e w40 ⟨rfl, hi, hb, hk⟩; refine ⟨_, rfl, ?_⟩; have n0_ := Aside0.mk (Kd.R_mono (Kd.R_keep (IsS65.apart (show IsS65 w _ gb668 l0 x669001_4 x669002_4 from (zI65 HI668)) (zs HO_684001) (by decide)) hk (fun _ h => h.2)) (fun _ h => h.1)); replace BK666 := zKB BK666 hk; replace BK667 := zKB BK667 hk; replace BK674 := zKB BK674 hk; replace BK683 := zKB BK683 hk; replace HB := Aside0.mk hb; replace HI668 := Aside0.mk hi; clear HO_684001; have HO_684001 := n0_; clear n0_; clear hb hk hi) | ((with_reducible refine gate_callee (f := 33) rfl ?_); refine zG (some 33) Try.func33 #[.pointer (some ⟨gb668, 0, none⟩)] ?_; (with_reducible refine (spec_l1Cur_ladders.calls gb668 l0 t689 t690 t691 t692 t693 t694 t695 w _ ?side1 ?side2 A38.out).mono ?_); (case side1 => exact zI65 HI668); (case side2 => exact zY65 HB); rintro e w41 ⟨rfl, hi, hb, hk⟩; refine ⟨_, rfl, ?_⟩; have n0_ := Aside0.mk (Kd.R_mono (Kd.R_keep (IsS65.apart (show IsS65 w _ gb668 l0 t689 t690 from (zI65 HI668)) (zs HO_684001) (by decide)) hk (fun _ h => h.2)) (fun _ h => h.1)); replace BK666 := zKB BK666 hk; replace BK667 := zKB BK667 hk; replace BK674 := zKB BK674 hk; replace BK683 := zKB BK683 hk; replace HB := Aside0.mk hb; replace HI668 := Aside0.mk hi; clear HO_684001; have HO_684001 := n0_; clear n0_; clear hb hk hi; have hnb42 := NB674_666.out; have hnc42 := NB666_674.out; have hnb43 := NB674_667.out; have hnc43 := NB667_674.out; have hnb44 := NB674_683.out; have hnc44 := NB683_674.out; have hnb45 := NB674_668.out; have hnc45 := NB668_674.out; obtain ⟨_, _, _, _, _, _⟩ := zc3 BK674))
     have n0_ : Aside0 (Kd.R k39 39 (((w41.setCell ⟨gb674, 0, none⟩ (.int .i64 t691)).setCell ⟨gb674, 1, none⟩ (.int .i64 t692)).setCell ⟨gb674, 2, none⟩ (.int .i64 t693)) w.heap.size (fun k_ => k_ ≠ gb666) (.slice Ao22 t679.length co22) t679) := ⟨by (with_reducible repeat (first | apply Kd.R_alloc | apply Kd.R_drewN | apply Kd.R_drew)); exact Kd.R_mono (Kd.R_far (p := ⟨gb674, 2, none⟩) (Kd.R_far (p := ⟨gb674, 1, none⟩) (Kd.R_far (p := ⟨gb674, 0, none⟩) (Kd.R_types HO_684001.out BK674.out (by decide)) (fun _ hk => hk.2) (.int .i64 t691)) (fun _ hk => hk.2) (.int .i64 t692)) (fun _ hk => hk.2) (.int .i64 t693)) (fun _ hk => hk.1)⟩
     have n1_ : Aside0 ((((w41.setCell ⟨gb674, 0, none⟩ (.int .i64 t691)).setCell ⟨gb674, 1, none⟩ (.int .i64 t692)).setCell ⟨gb674, 2, none⟩ (.int .i64 t693)).heap[gb666]? = some (.cells #[.int .i64 0, .int .i64 0, .int .i64 0] 39 (0, 0))) := ⟨zw BK666⟩
     have n2_ : Aside0 ((((w41.setCell ⟨gb674, 0, none⟩ (.int .i64 t691)).setCell ⟨gb674, 1, none⟩ (.int .i64 t692)).setCell ⟨gb674, 2, none⟩ (.int .i64 t693)).heap[gb667]? = some (.cells #[.int .i64 0, .int .i64 0, .int .i64 0] 25 (0, 0))) := ⟨zw BK667⟩
     have n3_ : Aside0 ((((w41.setCell ⟨gb674, 0, none⟩ (.int .i64 t691)).setCell ⟨gb674, 1, none⟩ (.int .i64 t692)).setCell ⟨gb674, 2, none⟩ (.int .i64 t693)).heap[gb674]? = some (.cells #[.int .i64 t691, .int .i64 t692, .int .i64 t693] 25 (0, 0))) := ⟨zw BK674⟩
     have n4_ : Aside0 ((((w41.setCell ⟨gb674, 0, none⟩ (.int .i64 t691)).setCell ⟨gb674, 1, none⟩ (.int .i64 t692)).setCell ⟨gb674, 2, none⟩ (.int .i64 t693)).heap[gb683]? = some (.cells #[.int .i64 t678, .slice Ao22 t679.length co22] 30 (0, 0))) := ⟨zw BK683⟩
     have n5_ : Aside0 (IsS65 w (((w41.setCell ⟨gb674, 0, none⟩ (.int .i64 t691)).setCell ⟨gb674, 1, none⟩ (.int .i64 t692)).setCell ⟨gb674, 2, none⟩ (.int .i64 t693)) gb668 l0 t694 t695) := ⟨(zI65 HI668)⟩
     have n6_ : Aside0 (Below w.heap.size w (((w41.setCell ⟨gb674, 0, none⟩ (.int .i64 t691)).setCell ⟨gb674, 1, none⟩ (.int .i64 t692)).setCell ⟨gb674, 2, none⟩ (.int .i64 t693))) := ⟨zY65 HB⟩
     (try clear HO_684001)
     (try clear BK666)
     (try clear BK667)
     (try clear BK674)
     (try clear BK683)
     (try clear HI668)
     (try clear HB)
     generalize (((w41.setCell ⟨gb674, 0, none⟩ (.int .i64 t691)).setCell ⟨gb674, 1, none⟩ (.int .i64 t692)).setCell ⟨gb674, 2, none⟩ (.int .i64 t693)) = w47 at n0_ n1_ n2_ n3_ n4_ n5_ n6_ ⊢
     have HO_684001 := n0_; have BK666 := n1_; have BK667 := n2_; have BK674 := n3_; have BK683 := n4_; have HI668 := n5_; have HB := n6_; clear n0_ n1_ n2_ n3_ n4_ n5_ n6_
     have n5_ := Aside0.mk (IsS65.drew HI668.out)
     replace HO_684001 := Aside0.mk (Kd.R_drew HO_684001.out); replace BK666 := Aside0.mk (blk_drew BK666.out); replace BK667 := Aside0.mk (blk_drew BK667.out); replace BK674 := Aside0.mk (blk_drew BK674.out); replace BK683 := Aside0.mk (blk_drew BK683.out); replace HB := Aside0.mk (below_drew1 HB.out); clear HI668; have HI668 := n5_; clear n5_
     refine start_ (n := 5) (S := fun w' => w'.cell? ⟨gb674, 0, none⟩ = some (.int .i64 t691) ∧ w'.cell? ⟨gb674, 1, none⟩ = some (.int .i64 t692) ∧ w'.cell? ⟨gb674, 2, none⟩ = some (.int .i64 t693)) (ds := []) #[false, false, false, false, false] (by kernel_rfl) rfl rfl ⟨(blk_cell BK674.out 0).trans rfl, (blk_cell BK674.out 1).trans rfl, (blk_cell BK674.out 2).trans rfl⟩ (fun hHeld => ?_)
     generalize w47.drew = w48 at HO_684001 BK666 BK667 BK674 BK683 HI668 HB hHeld ⊢
     refine zA0 0 34 ?_
     refine zT0 2 36 hHeld ?_
     refine one_ (i := 1) (N := some 35) #[true, true, true, false, false] rfl rfl (by kernel_rfl) (by decide) (fun K hK => ?_)
     refine goes_ Try.func63 (by kernel_rfl) rfl #[.pointer (some ⟨gb668, 0, none⟩)] (by rfl) rfl rfl zO3_3 ?_
     with_reducible refine (spec_l1Cur_clue.calls kj4 gb668 l0 t694 t695 t696 t697 t698 t699 t700 w _ ?side1 ?side2 A39.out).mono ?_
     (case side1 => exact zI65 HI668)
     (case side2 => exact zY65 HB)
     rintro e w49 ⟨rfl, hi, hb, hk⟩
     refine ⟨_, rfl, ?_⟩
     have n0_ := Aside0.mk (Kd.R_mono (Kd.R_keep (IsS65.apart (show IsS65 w _ gb668 l0 t694 t695 from (zI65 HI668)) (zs HO_684001) (by decide)) hk (fun _ h => h.2)) (fun _ h => h.1))
     replace BK666 := zKB BK666 hk
     replace BK667 := zKB BK667 hk
     replace BK674 := zKB BK674 hk
     replace BK683 := zKB BK683 hk
     replace HB := Aside0.mk hb
     replace HI668 := Aside0.mk hi
     clear HO_684001; have HO_684001 := n0_; clear n0_
     (try clear hb)
     (try clear hb2)
     (try clear hk)
     (try clear hi)
     refine hK.out _ _ ⟨(blk_cell BK674.out 0).trans rfl, (blk_cell BK674.out 1).trans rfl, (blk_cell BK674.out 2).trans rfl⟩ (fun hHeld => ?_)
     clear hK K
     refine zN 35 ?_
     refine one_ (i := 3) (N := none) #[true, true, true, true, false] rfl rfl (by kernel_rfl) (by decide) (fun K hK => ?_)
     have hs50 : w49.cell? ⟨gb666, 0, none⟩ = some (.int .i64 0) := (blk_cell BK666.out 0).trans rfl
     have hfs50 := blk_frozen BK666.out 0
     have hns50_1 := NB667_666.out; have hns50_2 := NB674_666.out; have hns50_3 := NB683_666.out; have hms50_1 := NB666_667.out; have hms50_2 := NB666_674.out; have hms50_3 := NB666_683.out
     have hs51 : w49.cell? ⟨gb666, 1, none⟩ = some (.int .i64 0) := (blk_cell BK666.out 1).trans rfl
     have hfs51 := blk_frozen BK666.out 1
     have hns51_1 := NB667_666.out; have hns51_2 := NB674_666.out; have hns51_3 := NB683_666.out; have hms51_1 := NB666_667.out; have hms51_2 := NB666_674.out; have hms51_3 := NB666_683.out
     have hs52 : w49.cell? ⟨gb666, 2, none⟩ = some (.int .i64 0) := (blk_cell BK666.out 2).trans rfl
     have hfs52 := blk_frozen BK666.out 2
     have hns52_1 := NB667_666.out; have hns52_2 := NB674_666.out; have hns52_3 := NB683_666.out; have hms52_1 := NB666_667.out; have hms52_2 := NB666_674.out; have hms52_3 := NB666_683.out
     refine skip_ (w1 := ?_) (by rfl) rfl ?_ ?_
     rotate_left
     ·go_simp
      rfl
     refine hK.out _ _ ⟨((cell_far (p := ⟨gb666, _, none⟩) NB674_666.out _).trans (((cell_far (p := ⟨gb666, _, none⟩) NB674_666.out _).trans (((cell_far (p := ⟨gb666, _, none⟩) NB674_666.out _).trans (hHeld.1)))))), ((cell_far (p := ⟨gb666, _, none⟩) NB674_666.out _).trans (((cell_far (p := ⟨gb666, _, none⟩) NB674_666.out _).trans (((cell_far (p := ⟨gb666, _, none⟩) NB674_666.out _).trans (hHeld.2.1)))))), ((cell_far (p := ⟨gb666, _, none⟩) NB674_666.out _).trans (((cell_far (p := ⟨gb666, _, none⟩) NB674_666.out _).trans (((cell_far (p := ⟨gb666, _, none⟩) NB674_666.out _).trans (hHeld.2.2))))))⟩ (fun hHeld => ?_)
     clear hK K
     refine one_ (i := 4) (N := none) #[true, true, true, true, true] rfl rfl (by kernel_rfl) (by decide) (fun K hK => ?_)
     have hs53 : w49.cell? ⟨gb667, 0, none⟩ = some (.int .i64 0) := (blk_cell BK667.out 0).trans rfl
     have hfs53 := blk_frozen BK667.out 0
     have hns53_0 := NB666_667.out; have hns53_2 := NB674_667.out; have hns53_3 := NB683_667.out; have hms53_0 := NB667_666.out; have hms53_2 := NB667_674.out; have hms53_3 := NB667_683.out
     have hs54 : w49.cell? ⟨gb667, 1, none⟩ = some (.int .i64 0) := (blk_cell BK667.out 1).trans rfl
     have hfs54 := blk_frozen BK667.out 1
     have hns54_0 := NB666_667.out; have hns54_2 := NB674_667.out; have hns54_3 := NB683_667.out; have hms54_0 := NB667_666.out; have hms54_2 := NB667_674.out; have hms54_3 := NB667_683.out
     have hs55 : w49.cell? ⟨gb667, 2, none⟩ = some (.int .i64 0) := (blk_cell BK667.out 2).trans rfl
     have hfs55 := blk_frozen BK667.out 2
     have hns55_0 := NB666_667.out; have hns55_2 := NB674_667.out; have hns55_3 := NB683_667.out; have hms55_0 := NB667_666.out; have hms55_2 := NB667_674.out; have hms55_3 := NB667_683.out
     refine skip_ (w1 := ?_) (by rfl) rfl ?_ ?_
     rotate_left
     ·go_simp
      rfl
     refine hK.out _ _ ⟨((cell_far (p := ⟨gb667, _, none⟩) NB674_667.out _).trans (((cell_far (p := ⟨gb667, _, none⟩) NB674_667.out _).trans (((cell_far (p := ⟨gb667, _, none⟩) NB674_667.out _).trans (hHeld.1)))))), ((cell_far (p := ⟨gb667, _, none⟩) NB674_667.out _).trans (((cell_far (p := ⟨gb667, _, none⟩) NB674_667.out _).trans (((cell_far (p := ⟨gb667, _, none⟩) NB674_667.out _).trans (hHeld.2.1)))))), ((cell_far (p := ⟨gb667, _, none⟩) NB674_667.out _).trans (((cell_far (p := ⟨gb667, _, none⟩) NB674_667.out _).trans (((cell_far (p := ⟨gb667, _, none⟩) NB674_667.out _).trans (hHeld.2.2))))))⟩ (fun hHeld => ?_)
     clear hK K
     refine done_ (by kernel_rfl) ?_
     try go_wp2
     refine bodyPost_ret (results_cc rfl _ _ gb666 gb667 39 25 #[.int .i64 t696, .int .i64 t697, .int .i64 t698] #[.int .i64 t691, .int .i64 t692, .int .i64 t693] (0, 0) (0, 0) _ _ rfl (zw BK666) Try.underlying39 rfl (by kernel_rfl) rfl (zw BK667) Try.underlying25 rfl (by kernel_rfl)) rfl ?_
     exact ⟨zt, zY65 HB⟩
    ·replace c37 := Bool.eq_false_iff.mpr c37
     subst c37; rw [if_neg (show ¬ (false = true) by decide)] at H; replace H := Option.bind_eq_some_iff.mp H; obtain ⟨⟨t701, t702, t703, t704, t705⟩, A560, H⟩ := H
     replace H : (some (t701, t702, t703, t669, t670, t671)) = some (r1, r2, r3, r4, r5, r6) := H
     have A56 := Aside0.mk A560; clear A560; simp only [Option.some.injEq, Prod.mk.injEq] at H; obtain ⟨rfl, rfl, rfl, rfl, rfl, rfl⟩ := H
     try go_wp2_with (first | ((with_reducible refine gate_callee (f := 32) rfl ?_); refine zG (some 31) Try.func32 #[.pointer (some ⟨gb668, 0, none⟩), .int .i64 10] ?_; (with_reducible refine (spec_l1Cur_one.calls gb668 l0 x669001_4 x669002_4 10 false t689 t690 w _ ?side1 ?side2 A36.out).mono ?_); (case side1 => exact zI65 HI668); (case side2 => exact zY65 HB); rintro e w57 ⟨rfl, hi, hb, hk⟩; refine ⟨_, rfl, ?_⟩; have n0_ := Aside0.mk (Kd.R_mono (Kd.R_keep (IsS65.apart (show IsS65 w _ gb668 l0 x669001_4 x669002_4 from (zI65 HI668)) (zs HO_684001) (by decide)) hk (fun _ h => h.2)) (fun _ h => h.1)); replace BK666 := zKB BK666 hk; replace BK667 := zKB BK667 hk; replace BK674 := zKB BK674 hk; replace BK683 := zKB BK683 hk; replace HB := Aside0.mk hb; replace HI668 := Aside0.mk hi; clear HO_684001; have HO_684001 := n0_; clear n0_; clear hb hk hi))
     have n5_ := Aside0.mk (IsS65.drew HI668.out)
     replace HO_684001 := Aside0.mk (Kd.R_drew HO_684001.out); replace BK666 := Aside0.mk (blk_drew BK666.out); replace BK667 := Aside0.mk (blk_drew BK667.out); replace BK674 := Aside0.mk (blk_drew BK674.out); replace BK683 := Aside0.mk (blk_drew BK683.out); replace HB := Aside0.mk (below_drew1 HB.out); clear HI668; have HI668 := n5_; clear n5_
     refine start_ (n := 5) (S := fun w' => w'.cell? ⟨gb674, 0, none⟩ = some (.int .i64 t669) ∧ w'.cell? ⟨gb674, 1, none⟩ = some (.int .i64 t670) ∧ w'.cell? ⟨gb674, 2, none⟩ = some (.int .i64 t671)) (ds := []) #[false, false, false, false, false] (by kernel_rfl) rfl rfl ⟨(blk_cell BK674.out 0).trans rfl, (blk_cell BK674.out 1).trans rfl, (blk_cell BK674.out 2).trans rfl⟩ (fun hHeld => ?_)
     generalize w57.drew = w58 at HO_684001 BK666 BK667 BK674 BK683 HI668 HB hHeld ⊢
     refine zA0 0 34 ?_
     refine zT0 2 36 hHeld ?_
     refine one_ (i := 1) (N := some 35) #[true, true, true, false, false] rfl rfl (by kernel_rfl) (by decide) (fun K hK => ?_)
     refine goes_ Try.func63 (by kernel_rfl) rfl #[.pointer (some ⟨gb668, 0, none⟩)] (by rfl) rfl rfl zO3_3 ?_
     with_reducible refine (spec_l1Cur_clue.calls kj4 gb668 l0 t689 t690 t701 t702 t703 t704 t705 w _ ?side1 ?side2 A56.out).mono ?_
     (case side1 => exact zI65 HI668)
     (case side2 => exact zY65 HB)
     rintro e w59 ⟨rfl, hi, hb, hk⟩
     refine ⟨_, rfl, ?_⟩
     have n0_ := Aside0.mk (Kd.R_mono (Kd.R_keep (IsS65.apart (show IsS65 w _ gb668 l0 t689 t690 from (zI65 HI668)) (zs HO_684001) (by decide)) hk (fun _ h => h.2)) (fun _ h => h.1))
     replace BK666 := zKB BK666 hk
     replace BK667 := zKB BK667 hk
     replace BK674 := zKB BK674 hk
     replace BK683 := zKB BK683 hk
     replace HB := Aside0.mk hb
     replace HI668 := Aside0.mk hi
     clear HO_684001; have HO_684001 := n0_; clear n0_
     (try clear hb)
     (try clear hb2)
     (try clear hk)
     (try clear hi)
     refine hK.out _ _ ⟨(blk_cell BK674.out 0).trans rfl, (blk_cell BK674.out 1).trans rfl, (blk_cell BK674.out 2).trans rfl⟩ (fun hHeld => ?_)
     clear hK K
     refine zN 35 ?_
     refine one_ (i := 3) (N := none) #[true, true, true, true, false] rfl rfl (by kernel_rfl) (by decide) (fun K hK => ?_)
     have hs60 : w59.cell? ⟨gb666, 0, none⟩ = some (.int .i64 0) := (blk_cell BK666.out 0).trans rfl
     have hfs60 := blk_frozen BK666.out 0
     have hns60_1 := NB667_666.out; have hns60_2 := NB674_666.out; have hns60_3 := NB683_666.out; have hms60_1 := NB666_667.out; have hms60_2 := NB666_674.out; have hms60_3 := NB666_683.out
     have hs61 : w59.cell? ⟨gb666, 1, none⟩ = some (.int .i64 0) := (blk_cell BK666.out 1).trans rfl
     have hfs61 := blk_frozen BK666.out 1
     have hns61_1 := NB667_666.out; have hns61_2 := NB674_666.out; have hns61_3 := NB683_666.out; have hms61_1 := NB666_667.out; have hms61_2 := NB666_674.out; have hms61_3 := NB666_683.out
     have hs62 : w59.cell? ⟨gb666, 2, none⟩ = some (.int .i64 0) := (blk_cell BK666.out 2).trans rfl
     have hfs62 := blk_frozen BK666.out 2
     have hns62_1 := NB667_666.out; have hns62_2 := NB674_666.out; have hns62_3 := NB683_666.out; have hms62_1 := NB666_667.out; have hms62_2 := NB666_674.out; have hms62_3 := NB666_683.out
     refine skip_ (w1 := ?_) (by rfl) rfl ?_ ?_
     rotate_left
     ·go_simp
      rfl
     refine hK.out _ _ ⟨((cell_far (p := ⟨gb666, _, none⟩) NB674_666.out _).trans (((cell_far (p := ⟨gb666, _, none⟩) NB674_666.out _).trans (((cell_far (p := ⟨gb666, _, none⟩) NB674_666.out _).trans (hHeld.1)))))), ((cell_far (p := ⟨gb666, _, none⟩) NB674_666.out _).trans (((cell_far (p := ⟨gb666, _, none⟩) NB674_666.out _).trans (((cell_far (p := ⟨gb666, _, none⟩) NB674_666.out _).trans (hHeld.2.1)))))), ((cell_far (p := ⟨gb666, _, none⟩) NB674_666.out _).trans (((cell_far (p := ⟨gb666, _, none⟩) NB674_666.out _).trans (((cell_far (p := ⟨gb666, _, none⟩) NB674_666.out _).trans (hHeld.2.2))))))⟩ (fun hHeld => ?_)
     clear hK K
     refine one_ (i := 4) (N := none) #[true, true, true, true, true] rfl rfl (by kernel_rfl) (by decide) (fun K hK => ?_)
     have hs63 : w59.cell? ⟨gb667, 0, none⟩ = some (.int .i64 0) := (blk_cell BK667.out 0).trans rfl
     have hfs63 := blk_frozen BK667.out 0
     have hns63_0 := NB666_667.out; have hns63_2 := NB674_667.out; have hns63_3 := NB683_667.out; have hms63_0 := NB667_666.out; have hms63_2 := NB667_674.out; have hms63_3 := NB667_683.out
     have hs64 : w59.cell? ⟨gb667, 1, none⟩ = some (.int .i64 0) := (blk_cell BK667.out 1).trans rfl
     have hfs64 := blk_frozen BK667.out 1
     have hns64_0 := NB666_667.out; have hns64_2 := NB674_667.out; have hns64_3 := NB683_667.out; have hms64_0 := NB667_666.out; have hms64_2 := NB667_674.out; have hms64_3 := NB667_683.out
     have hs65 : w59.cell? ⟨gb667, 2, none⟩ = some (.int .i64 0) := (blk_cell BK667.out 2).trans rfl
     have hfs65 := blk_frozen BK667.out 2
     have hns65_0 := NB666_667.out; have hns65_2 := NB674_667.out; have hns65_3 := NB683_667.out; have hms65_0 := NB667_666.out; have hms65_2 := NB667_674.out; have hms65_3 := NB667_683.out
     refine skip_ (w1 := ?_) (by rfl) rfl ?_ ?_
     rotate_left
     ·go_simp
      rfl
     refine hK.out _ _ ⟨((cell_far (p := ⟨gb667, _, none⟩) NB674_667.out _).trans (((cell_far (p := ⟨gb667, _, none⟩) NB674_667.out _).trans (((cell_far (p := ⟨gb667, _, none⟩) NB674_667.out _).trans (hHeld.1)))))), ((cell_far (p := ⟨gb667, _, none⟩) NB674_667.out _).trans (((cell_far (p := ⟨gb667, _, none⟩) NB674_667.out _).trans (((cell_far (p := ⟨gb667, _, none⟩) NB674_667.out _).trans (hHeld.2.1)))))), ((cell_far (p := ⟨gb667, _, none⟩) NB674_667.out _).trans (((cell_far (p := ⟨gb667, _, none⟩) NB674_667.out _).trans (((cell_far (p := ⟨gb667, _, none⟩) NB674_667.out _).trans (hHeld.2.2))))))⟩ (fun hHeld => ?_)
     clear hK K
     refine done_ (by kernel_rfl) ?_
     try go_wp2
     refine bodyPost_ret (results_cc rfl _ _ gb666 gb667 39 25 #[.int .i64 t701, .int .i64 t702, .int .i64 t703] #[.int .i64 t669, .int .i64 t670, .int .i64 t671] (0, 0) (0, 0) _ _ rfl (zw BK666) Try.underlying39 rfl (by kernel_rfl) rfl (zw BK667) Try.underlying25 rfl (by kernel_rfl)) rfl ?_
     exact ⟨zt, zY65 HB⟩


/-! ### spec_DoesFit: function 28 -/
def spec_DoesFit.f (k : Nat) (a0_0 : Int) (a0_1 : Int) (a0_2 : Int) (a1_0 : Int) (a1_1 : Int) (a1_2 : Int) : Option (Bool × Bool) := (spec_pzHidden.f a1_0 a1_1 a1_2).bind fun t708 => (if t708 = true then ((spec_pzClue.f k a0_0 a0_1 a0_2).bind fun t709 => (if t709 = true then ((spec_pzFits.f k a0_0 a0_1 a0_2 a1_0 a1_1 a1_2).bind fun t710 => (some (t710, true))) else (some (false, false)))) else (some (false, false)))
set_option maxHeartbeats 8000000 in
set_option maxRecDepth 100000 in
theorem spec_DoesFit.calls (k : Nat) (a0_0 : Int) (a0_1 : Int) (a0_2 : Int) (a1_0 : Int) (a1_1 : Int) (a1_2 : Int) (r1 : Bool) (r2 : Bool) (w : World) (h : spec_DoesFit.f k a0_0 a0_1 a0_2 a1_0 a1_1 a1_2 = some (r1, r2)) :
  Calls Try.prog 28 #[.agg #[.int .i64 a0_0, .int .i64 a0_1, .int .i64 a0_2], .agg #[.int .i64 a1_0, .int .i64 a1_1, .int .i64 a1_2]] w fun e w' => e = .returned (.tuple #[.bool r1, .bool r2]) ∧ Below w.heap.size w w' := by
 have hu39 := Try.underlying39; have hu25 := Try.underlying25
 have HB := Aside0.mk (Below.refl w.heap.size w)
 have H : ((spec_pzHidden.f a1_0 a1_1 a1_2).bind fun t708 => (if t708 = true then ((spec_pzClue.f k a0_0 a0_1 a0_2).bind fun t709 => (if t709 = true then ((spec_pzFits.f k a0_0 a0_1 a0_2 a1_0 a1_1 a1_2).bind fun t710 => (some (t710, true))) else (some (false, false)))) else (some (false, false)))) = some (r1, r2) := h
 clear h; replace H := Option.bind_eq_some_iff.mp H; obtain ⟨t708, A30, H⟩ := H; (try dsimp only at H); have A3 := Aside0.mk A30; clear A30
 by_cases c4 : t708 = true
 ·subst c4
  rw [if_pos rfl] at H; replace H := Option.bind_eq_some_iff.mp H; obtain ⟨t709, A50, H⟩ := H
  replace H : (if t709 = true then ((spec_pzFits.f k a0_0 a0_1 a0_2 a1_0 a1_1 a1_2).bind fun t710 => (some (t710, true))) else (some (false, false))) = some (r1, r2) := H
  have A5 := Aside0.mk A50; clear A50
  by_cases c6 : t709 = true
  ·subst c6
   rw [if_pos rfl] at H; replace H := Option.bind_eq_some_iff.mp H; obtain ⟨t710, A70, H⟩ := H
   replace H : (some (t710, true)) = some (r1, r2) := H
   have A7 := Aside0.mk A70; clear A70; simp only [Option.some.injEq, Prod.mk.injEq] at H; obtain ⟨rfl, rfl⟩ := H
   go_enter Try.func28, Try.ntmps28
   go_wp2_with (first | ((with_reducible refine gate_dst (N := 2) rfl ?_); refine zE 2 #[.int .i64 a0_0, .int .i64 a0_1, .int .i64 a0_2] 39 ?_; intro gb706 hg w8 hbox hb; have BK706 := Aside0.mk (hbox); have GW706 := zg HB hg; have GE706 := GW706; replace HB := zh HB hb; clear hb hbox hg) | ((with_reducible refine gate_dst (N := 3) rfl ?_); refine zE 3 #[.int .i64 a1_0, .int .i64 a1_1, .int .i64 a1_2] 25 ?_; intro gb707 hg w9 hbox hb; have BK707 := Aside0.mk (hbox); have GW707 := zg HB hg; have GE707 := GW707; have NB706_707 := zl BK706 hg; have NB707_706 := zr BK706 hg; replace BK706 := zb BK706 hb; replace HB := zh HB hb; clear hb hbox hg; have hnb10 := NB707_706.out; have hnc10 := NB706_707.out; obtain ⟨_, _, _, _, _, _⟩ := zc3 BK707) | ((with_reducible refine gate_callee (f := 41) rfl ?_); refine zG (some 7) Try.func41 #[.agg #[.int .i64 a1_0, .int .i64 a1_1, .int .i64 a1_2]] ?_; (with_reducible refine (spec_pzHidden.calls a1_0 a1_1 a1_2 true _ A3.out).mono ?_); rintro e w12 ⟨rfl, hb⟩; refine ⟨_, rfl, ?_⟩; replace BK706 := zb BK706 hb; replace BK707 := zb BK707 hb; replace HB := zh HB hb; clear hb; obtain ⟨_, _, _, _, _, _⟩ := zc3 BK706) | (go_at_call 64; (with_reducible refine (spec_pzClue.calls k a0_0 a0_1 a0_2 true _ A5.out).mono ?_); rintro e w14 ⟨rfl, hb⟩; replace BK706 := zb BK706 hb; replace BK707 := zb BK707 hb; replace HB := zh HB hb; clear hb; obtain ⟨_, _, _, _, _, _⟩ := zc3 BK706; obtain ⟨_, _, _, _, _, _⟩ := zc3 BK707) | ((with_reducible refine gate_callee (f := 65) rfl ?_); refine zG (some 16) Try.func65 #[.agg #[.int .i64 a0_0, .int .i64 a0_1, .int .i64 a0_2], .agg #[.int .i64 a1_0, .int .i64 a1_1, .int .i64 a1_2]] ?_; (with_reducible refine (spec_pzFits.calls k a0_0 a0_1 a0_2 a1_0 a1_1 a1_2 t710 _ A7.out).mono ?_); rintro e w17 ⟨rfl, hb⟩; refine ⟨_, rfl, ?_⟩; replace BK706 := zb BK706 hb; replace BK707 := zb BK707 hb; replace HB := zh HB hb; clear hb))
   go_ret2
   exact ⟨zt, zy HB⟩
  ·replace c6 := Bool.eq_false_iff.mpr c6
   subst c6; rw [if_neg (show ¬ (false = true) by decide)] at H; simp only [Option.some.injEq, Prod.mk.injEq] at H; obtain ⟨rfl, rfl⟩ := H
   go_enter Try.func28, Try.ntmps28
   go_wp2_with (first | ((with_reducible refine gate_dst (N := 2) rfl ?_); refine zE 2 #[.int .i64 a0_0, .int .i64 a0_1, .int .i64 a0_2] 39 ?_; intro gb706 hg w18 hbox hb; have BK706 := Aside0.mk (hbox); have GW706 := zg HB hg; have GE706 := GW706; replace HB := zh HB hb; clear hb hbox hg) | ((with_reducible refine gate_dst (N := 3) rfl ?_); refine zE 3 #[.int .i64 a1_0, .int .i64 a1_1, .int .i64 a1_2] 25 ?_; intro gb707 hg w19 hbox hb; have BK707 := Aside0.mk (hbox); have GW707 := zg HB hg; have GE707 := GW707; have NB706_707 := zl BK706 hg; have NB707_706 := zr BK706 hg; replace BK706 := zb BK706 hb; replace HB := zh HB hb; clear hb hbox hg; have hnb20 := NB707_706.out; have hnc20 := NB706_707.out; obtain ⟨_, _, _, _, _, _⟩ := zc3 BK707) | ((with_reducible refine gate_callee (f := 41) rfl ?_); refine zG (some 7) Try.func41 #[.agg #[.int .i64 a1_0, .int .i64 a1_1, .int .i64 a1_2]] ?_; (with_reducible refine (spec_pzHidden.calls a1_0 a1_1 a1_2 true _ A3.out).mono ?_); rintro e w22 ⟨rfl, hb⟩; refine ⟨_, rfl, ?_⟩; replace BK706 := zb BK706 hb; replace BK707 := zb BK707 hb; replace HB := zh HB hb; clear hb; obtain ⟨_, _, _, _, _, _⟩ := zc3 BK706) | (go_at_call 64; (with_reducible refine (spec_pzClue.calls k a0_0 a0_1 a0_2 false _ A5.out).mono ?_); rintro e w24 ⟨rfl, hb⟩; replace BK706 := zb BK706 hb; replace BK707 := zb BK707 hb; replace HB := zh HB hb; clear hb))
   go_ret2
   exact ⟨zt, zy HB⟩
 ·replace c4 := Bool.eq_false_iff.mpr c4
  subst c4; rw [if_neg (show ¬ (false = true) by decide)] at H; simp only [Option.some.injEq, Prod.mk.injEq] at H; obtain ⟨rfl, rfl⟩ := H
  go_enter Try.func28, Try.ntmps28
  go_wp2_with (first | ((with_reducible refine gate_dst (N := 2) rfl ?_); refine zE 2 #[.int .i64 a0_0, .int .i64 a0_1, .int .i64 a0_2] 39 ?_; intro gb706 hg w25 hbox hb; have BK706 := Aside0.mk (hbox); have GW706 := zg HB hg; have GE706 := GW706; replace HB := zh HB hb; clear hb hbox hg) | ((with_reducible refine gate_dst (N := 3) rfl ?_); refine zE 3 #[.int .i64 a1_0, .int .i64 a1_1, .int .i64 a1_2] 25 ?_; intro gb707 hg w26 hbox hb; have BK707 := Aside0.mk (hbox); have GW707 := zg HB hg; have GE707 := GW707; have NB706_707 := zl BK706 hg; have NB707_706 := zr BK706 hg; replace BK706 := zb BK706 hb; replace HB := zh HB hb; clear hb hbox hg; have hnb27 := NB707_706.out; have hnc27 := NB706_707.out; obtain ⟨_, _, _, _, _, _⟩ := zc3 BK707) | ((with_reducible refine gate_callee (f := 41) rfl ?_); refine zG (some 7) Try.func41 #[.agg #[.int .i64 a1_0, .int .i64 a1_1, .int .i64 a1_2]] ?_; (with_reducible refine (spec_pzHidden.calls a1_0 a1_1 a1_2 false _ A3.out).mono ?_); rintro e w29 ⟨rfl, hb⟩; refine ⟨_, rfl, ?_⟩; replace BK706 := zb BK706 hb; replace BK707 := zb BK707 hb; replace HB := zh HB hb; clear hb))
  go_ret2
  exact ⟨zt, zy HB⟩


/-! ### spec_DrawIsClue: function 29 -/
def spec_DrawIsClue.f (k : Nat) (l0 : List Int) : Option (Int × Int × Int × Int) := (spec_l1Cur_one.f l0 0 0 3).bind fun bt713 => (if bt713.1 = true then ((spec_l1Cur_among.f l0 bt713.2.1 bt713.2.2 (([(-1), 0, 1, 5, 12, 13, 4611686018427387904] : List Int))).bind fun bt719 => ((spec_l1Cur_pick.f l0 bt719.2.1 bt719.2.2 7).bind fun bt722 => ((spec_l1Cur_pick.f l0 bt722.2.1 bt722.2.2 9).bind fun bt725 => ((spec_l1Cur_among.f l0 bt725.2.1 bt725.2.2 (([(-1), 0, 0, 1, 2, 200, 201, 4611686018427387904] : List Int))).bind fun bt731 => ((spec_l1Cur_among.f l0 bt731.2.1 bt731.2.2 (([(-1), 0, 1, 2, 200, 201, 4611686018427387904] : List Int))).bind fun bt737 => (some (bt719.1, wrap64 (bt722.1 - (wrap64 (Int.tdiv bt725.1 8))), bt731.1, bt737.1))))))) else ((spec_l1Cur_pick.f l0 bt713.2.1 bt713.2.2 12).bind fun bt740 => ((spec_l1Cur_clue.f k l0 bt740.2.1 bt740.2.2).bind fun bt743 => (some (wrap64 (1 + bt740.1), bt743.1, bt743.2.1, bt743.2.2.1)))))
set_option maxHeartbeats 8000000 in
set_option maxRecDepth 100000 in
theorem spec_DrawIsClue.calls (k : Nat) (A0 : Option Addr) (c0 : Nat) (l0 : List Int) (r1 : Int) (r2 : Int) (r3 : Int) (r4 : Int) (w : World) (hr0 : Kd.C (Kd.int .u8) w A0 l0.length l0) (hc0 : l0.length ≤ c0) (h : spec_DrawIsClue.f k l0 = some (r1, r2, r3, r4)) :
  Calls Try.prog 29 #[.slice A0 l0.length c0] w fun e w' => e = .returned (.tuple #[.int .i64 r1, .agg #[.int .i64 r2, .int .i64 r3, .int .i64 r4]]) ∧ Below w.heap.size w w' := by
 have hu39 := Try.underlying39; have hu65 := Try.underlying65; have HR0 := Aside0.mk hr0; have HC0 := Aside0.mk hc0; clear hr0 hc0
 have HB := Aside0.mk (Below.refl w.heap.size w)
 have H : ((spec_l1Cur_one.f l0 0 0 3).bind fun bt713 => (if bt713.1 = true then ((spec_l1Cur_among.f l0 bt713.2.1 bt713.2.2 (([(-1), 0, 1, 5, 12, 13, 4611686018427387904] : List Int))).bind fun bt719 => ((spec_l1Cur_pick.f l0 bt719.2.1 bt719.2.2 7).bind fun bt722 => ((spec_l1Cur_pick.f l0 bt722.2.1 bt722.2.2 9).bind fun bt725 => ((spec_l1Cur_among.f l0 bt725.2.1 bt725.2.2 (([(-1), 0, 0, 1, 2, 200, 201, 4611686018427387904] : List Int))).bind fun bt731 => ((spec_l1Cur_among.f l0 bt731.2.1 bt731.2.2 (([(-1), 0, 1, 2, 200, 201, 4611686018427387904] : List Int))).bind fun bt737 => (some (bt719.1, wrap64 (bt722.1 - (wrap64 (Int.tdiv bt725.1 8))), bt731.1, bt737.1))))))) else ((spec_l1Cur_pick.f l0 bt713.2.1 bt713.2.2 12).bind fun bt740 => ((spec_l1Cur_clue.f k l0 bt740.2.1 bt740.2.2).bind fun bt743 => (some (wrap64 (1 + bt740.1), bt743.1, bt743.2.1, bt743.2.2.1)))))) = some (r1, r2, r3, r4) := h
 clear h; replace H := Option.bind_eq_some_iff.mp H; obtain ⟨⟨t713, t714, t715⟩, A20, H⟩ := H; (try dsimp only at H); have A2 := Aside0.mk A20; clear A20
 by_cases c3 : t713 = true
 ·subst c3
  rw [if_pos rfl] at H
  obtain ⟨y716, hy716⟩ : ∃ y_ : List Int, y_ = (([(-1), 0, 1, 5, 12, 13, 4611686018427387904] : List Int)) := ⟨_, rfl⟩
  replace H : ((spec_l1Cur_among.f l0 t714 t715 y716).bind fun bt719 => ((spec_l1Cur_pick.f l0 bt719.2.1 bt719.2.2 7).bind fun bt722 => ((spec_l1Cur_pick.f l0 bt722.2.1 bt722.2.2 9).bind fun bt725 => ((spec_l1Cur_among.f l0 bt725.2.1 bt725.2.2 (([(-1), 0, 0, 1, 2, 200, 201, 4611686018427387904] : List Int))).bind fun bt731 => ((spec_l1Cur_among.f l0 bt731.2.1 bt731.2.2 (([(-1), 0, 1, 2, 200, 201, 4611686018427387904] : List Int))).bind fun bt737 => (some (bt719.1, wrap64 (bt722.1 - (wrap64 (Int.tdiv bt725.1 8))), bt731.1, bt737.1))))))) = some (r1, r2, r3, r4) := by first | (rw [hy716]; with_reducible exact H) | (have H2_ := (Option.bind_some _ _).symm.trans H; rw [hy716]; with_reducible exact H2_) | (have H2_ := (Option.bind_some _ _).symm.trans H; with_reducible exact H2_) | with_reducible exact H | (rw [hy716]; exact H) | exact H
  have Ny716 := Aside0.mk hy716; clear hy716; replace H := Option.bind_eq_some_iff.mp H; obtain ⟨⟨t719, t720, t721⟩, A40, H⟩ := H; (try dsimp only at H); have A4 := Aside0.mk A40; clear A40; replace H := Option.bind_eq_some_iff.mp H; obtain ⟨⟨t722, t723, t724⟩, A50, H⟩ := H; (try dsimp only at H); have A5 := Aside0.mk A50; clear A50; replace H := Option.bind_eq_some_iff.mp H; obtain ⟨⟨t725, t726, t727⟩, A60, H⟩ := H; (try dsimp only at H); have A6 := Aside0.mk A60; clear A60
  obtain ⟨y728, hy728⟩ : ∃ y_ : List Int, y_ = (([(-1), 0, 0, 1, 2, 200, 201, 4611686018427387904] : List Int)) := ⟨_, rfl⟩
  replace H : ((spec_l1Cur_among.f l0 t726 t727 y728).bind fun bt731 => ((spec_l1Cur_among.f l0 bt731.2.1 bt731.2.2 (([(-1), 0, 1, 2, 200, 201, 4611686018427387904] : List Int))).bind fun bt737 => (some (t719, wrap64 (t722 - (wrap64 (Int.tdiv t725 8))), bt731.1, bt737.1)))) = some (r1, r2, r3, r4) := by first | (rw [hy728]; with_reducible exact H) | (have H2_ := (Option.bind_some _ _).symm.trans H; rw [hy728]; with_reducible exact H2_) | (have H2_ := (Option.bind_some _ _).symm.trans H; with_reducible exact H2_) | with_reducible exact H | (rw [hy728]; exact H) | exact H
  have Ny728 := Aside0.mk hy728; clear hy728; replace H := Option.bind_eq_some_iff.mp H; obtain ⟨⟨t731, t732, t733⟩, A70, H⟩ := H; (try dsimp only at H); have A7 := Aside0.mk A70; clear A70
  obtain ⟨y734, hy734⟩ : ∃ y_ : List Int, y_ = (([(-1), 0, 1, 2, 200, 201, 4611686018427387904] : List Int)) := ⟨_, rfl⟩
  replace H : ((spec_l1Cur_among.f l0 t732 t733 y734).bind fun bt737 => (some (t719, wrap64 (t722 - (wrap64 (Int.tdiv t725 8))), t731, bt737.1))) = some (r1, r2, r3, r4) := by first | (rw [hy734]; with_reducible exact H) | (have H2_ := (Option.bind_some _ _).symm.trans H; rw [hy734]; with_reducible exact H2_) | (have H2_ := (Option.bind_some _ _).symm.trans H; with_reducible exact H2_) | with_reducible exact H | (rw [hy734]; exact H) | exact H
  have Ny734 := Aside0.mk hy734; clear hy734; replace H := Option.bind_eq_some_iff.mp H; obtain ⟨⟨t737, t738, t739⟩, A80, H⟩ := H
  replace H : (some (t719, wrap64 (t722 - (wrap64 (Int.tdiv t725 8))), t731, t737)) = some (r1, r2, r3, r4) := H
  have A8 := Aside0.mk A80; clear A80; simp only [Option.some.injEq, Prod.mk.injEq] at H; obtain ⟨rfl, rfl, rfl, rfl⟩ := H
  go_enter Try.func29, Try.ntmps29
  go_wp2_with (first | ((with_reducible refine gate_dst (N := 3) rfl ?_); refine zE 3 #[.int .i64 0, .int .i64 0, .int .i64 0] 39 ?_; intro gb711 hg w9 hbox hb; have BK711 := Aside0.mk (hbox); have GW711 := zg HB hg; have GE711 := GW711; replace HB := zh HB hb; clear hb hbox hg) | ((with_reducible refine gate_dst (N := 7) rfl ?_); refine zE 7 #[.slice A0 l0.length c0, .int .i64 0, .int .u64 0] 65 ?_; intro gb712 hg w10 hbox hb; have HI712 := Aside0.mk ((show IsS65 w _ gb712 l0 0 0 from ⟨_, _, hbox, (by rw [hg]; exact (below_size (zy HB)) : w.heap.size ≤ gb712), HR0.out⟩)); have GW712 := zg HB hg; have GE712 := GW712; have NB711_712 := zl BK711 hg; have NB712_711 := zr BK711 hg; replace BK711 := zb BK711 hb; replace HB := zh HB hb; clear hb hbox hg) | ((with_reducible refine gate_callee (f := 32) rfl ?_); refine zG (some 9) Try.func32 #[.pointer (some ⟨gb712, 0, none⟩), .int .i64 3] ?_; (with_reducible refine (spec_l1Cur_one.calls gb712 l0 0 0 3 true t714 t715 w _ ?side1 ?side2 A2.out).mono ?_); (case side1 => exact zI65 HI712); (case side2 => exact zY65 HB); rintro e w11 ⟨rfl, hi, hb, hk⟩; refine ⟨_, rfl, ?_⟩; replace BK711 := zKB BK711 hk; replace HB := Aside0.mk hb; replace HI712 := Aside0.mk hi; clear hb hk hi) | ((with_reducible refine gate_dst (N := 11) rfl ?_); refine Kd.R_lit (Kd.int .i64) _ 3 ?hg (N := 11) ?hd (xs := ([(-1), 0, 1, 5, 12, 13, 4611686018427387904] : List Int)) (inner := [.int .i64 (-1), .int .i64 0, .int .i64 1, .int .i64 5, .int .i64 12, .int .i64 13, .int .i64 4611686018427387904]) (ok := fun _ => True) (okp := fun _ => True) ?hr ?hp (fun _ hk => hk) trivial (Below.refl _ _) (Nat.le_refl _) (by simp) ?_; (case hd => rfl); (case hg => rfl); (case hr => first | (go_simp; done) | (go_simp; rfl)); (case hp => exact (Reps.one (show Kd.M (Kd.int .i64) _ _ _ (-1) [.int .i64 (-1)] from rfl) (Reps.one (show Kd.M (Kd.int .i64) _ _ _ 0 [.int .i64 0] from rfl) (Reps.one (show Kd.M (Kd.int .i64) _ _ _ 1 [.int .i64 1] from rfl) (Reps.one (show Kd.M (Kd.int .i64) _ _ _ 5 [.int .i64 5] from rfl) (Reps.one (show Kd.M (Kd.int .i64) _ _ _ 12 [.int .i64 12] from rfl) (Reps.one (show Kd.M (Kd.int .i64) _ _ _ 13 [.int .i64 13] from rfl) (Reps.one (show Kd.M (Kd.int .i64) _ _ _ 4611686018427387904 [.int .i64 4611686018427387904] from rfl) (Reps.none _ _))))))))); intro v717 w12 ho13 hb hg_ hnew_; clear hg_ hnew_; (first | rw [← Ny716.out] at ho13 | (simp only [Int.reduceToNat] at ho13; rw [← Ny716.out] at ho13)); have HO718 := Aside0.mk (Kd.R_lower ho13 (below_size (zY65 HB))); replace BK711 := zb BK711 hb; replace HI712 := zJ65 HI712 hb; replace HB := zH65 HB hb; clear hb ho13; obtain ⟨Ao14, co14, eo14⟩ := Kd.R_slice HO718.out; subst eo14) | ((with_reducible refine gate_callee (f := 34) rfl ?_); refine zG (some 12) Try.func34 #[.pointer (some ⟨gb712, 0, none⟩), .slice Ao14 y716.length co14] ?_; (with_reducible refine (spec_l1Cur_among.calls gb712 l0 t714 t715 _ _ y716 t719 t720 t721 w _ ?side1 ?side2 ?side3 ?side4 ?side5 A4.out).mono ?_); (case side1 => exact zI65 HI712); (case side2 => exact zY65 HB); (case side3 => repeat (first | exact (Kd.R_reads' HO718.out).2.2 | (with_reducible refine Kd.C_alloc ?_ _) | (with_reducible refine Kd.C_drewN ?_ _) | (with_reducible refine Kd.C_drew ?_))); (case side4 => exact (Kd.R_reads' HO718.out).2.1); (case side5 => exact far_slice (IsS65.own_ne HI712.out HO718.out (by decide))); rintro e w15 ⟨rfl, hi, hb, hk⟩; refine ⟨_, rfl, ?_⟩; have n1_ := Aside0.mk (Kd.R_mono (Kd.R_keep (IsS65.apart (show IsS65 w _ gb712 l0 t714 t715 from (zI65 HI712)) (zs HO718) (by decide)) hk (fun _ h => h.2)) (fun _ h => h.1)); replace BK711 := zKB BK711 hk; replace HB := Aside0.mk hb; replace HI712 := Aside0.mk hi; clear HO718; have HO718 := n1_; clear n1_; clear hb hk hi) | ((with_reducible refine gate_callee (f := 36) rfl ?_); refine zG (some 14) Try.func36 #[.pointer (some ⟨gb712, 0, none⟩), .int .i64 7] ?_; (with_reducible refine (spec_l1Cur_pick.calls gb712 l0 t720 t721 7 t722 t723 t724 w _ ?side1 ?side2 A5.out).mono ?_); (case side1 => exact zI65 HI712); (case side2 => exact zY65 HB); rintro e w16 ⟨rfl, hi, hb, hk⟩; refine ⟨_, rfl, ?_⟩; have n1_ := Aside0.mk (Kd.R_mono (Kd.R_keep (IsS65.apart (show IsS65 w _ gb712 l0 t720 t721 from (zI65 HI712)) (zs HO718) (by decide)) hk (fun _ h => h.2)) (fun _ h => h.1)); replace BK711 := zKB BK711 hk; replace HB := Aside0.mk hb; replace HI712 := Aside0.mk hi; clear HO718; have HO718 := n1_; clear n1_; clear hb hk hi) | ((with_reducible refine gate_callee (f := 36) rfl ?_); refine zG (some 16) Try.func36 #[.pointer (some ⟨gb712, 0, none⟩), .int .i64 9] ?_; (with_reducible refine (spec_l1Cur_pick.calls gb712 l0 t723 t724 9 t725 t726 t727 w _ ?side1 ?side2 A6.out).mono ?_); (case side1 => exact zI65 HI712); (case side2 => exact zY65 HB); rintro e w17 ⟨rfl, hi, hb, hk⟩; refine ⟨_, rfl, ?_⟩; have n1_ := Aside0.mk (Kd.R_mono (Kd.R_keep (IsS65.apart (show IsS65 w _ gb712 l0 t723 t724 from (zI65 HI712)) (zs HO718) (by decide)) hk (fun _ h => h.2)) (fun _ h => h.1)); replace BK711 := zKB BK711 hk; replace HB := Aside0.mk hb; replace HI712 := Aside0.mk hi; clear HO718; have HO718 := n1_; clear n1_; clear hb hk hi) | ((with_reducible refine gate_dst (N := 20) rfl ?_); refine Kd.R_lit (Kd.int .i64) _ 3 ?hg (N := 20) ?hd (xs := ([(-1), 0, 0, 1, 2, 200, 201, 4611686018427387904] : List Int)) (inner := [.int .i64 (-1), .int .i64 0, .int .i64 0, .int .i64 1, .int .i64 2, .int .i64 200, .int .i64 201, .int .i64 4611686018427387904]) (ok := fun _ => True) (okp := fun _ => True) ?hr ?hp (fun _ hk => hk) trivial (Below.refl _ _) (Nat.le_refl _) (by simp) ?_; (case hd => rfl); (case hg => rfl); (case hr => first | (go_simp; done) | (go_simp; rfl)); (case hp => exact (Reps.one (show Kd.M (Kd.int .i64) _ _ _ (-1) [.int .i64 (-1)] from rfl) (Reps.one (show Kd.M (Kd.int .i64) _ _ _ 0 [.int .i64 0] from rfl) (Reps.one (show Kd.M (Kd.int .i64) _ _ _ 0 [.int .i64 0] from rfl) (Reps.one (show Kd.M (Kd.int .i64) _ _ _ 1 [.int .i64 1] from rfl) (Reps.one (show Kd.M (Kd.int .i64) _ _ _ 2 [.int .i64 2] from rfl) (Reps.one (show Kd.M (Kd.int .i64) _ _ _ 200 [.int .i64 200] from rfl) (Reps.one (show Kd.M (Kd.int .i64) _ _ _ 201 [.int .i64 201] from rfl) (Reps.one (show Kd.M (Kd.int .i64) _ _ _ 4611686018427387904 [.int .i64 4611686018427387904] from rfl) (Reps.none _ _)))))))))); intro v729 w18 ho19 hb hg_ hnew_; clear hg_ hnew_; (first | rw [← Ny728.out] at ho19 | (simp only [Int.reduceToNat] at ho19; rw [← Ny728.out] at ho19)); have n0_ := Aside0.mk (Kd.R_elder' (zs HO718) (Kd.R_base ho19) hb); have HO730 := Aside0.mk (Kd.R_lower (Kd.R_new' ho19 (Kd.R_lt (zs HO718))) (below_size (zY65 HB))); replace BK711 := zb BK711 hb; replace HI712 := zJ65 HI712 hb; replace HB := zH65 HB hb; clear HO718; have HO718 := n0_; clear n0_; clear hb ho19; obtain ⟨Ao20, co20, eo20⟩ := Kd.R_slice HO730.out; subst eo20) | ((with_reducible refine gate_callee (f := 34) rfl ?_); refine zG (some 21) Try.func34 #[.pointer (some ⟨gb712, 0, none⟩), .slice Ao20 y728.length co20] ?_; (with_reducible refine (spec_l1Cur_among.calls gb712 l0 t726 t727 _ _ y728 t731 t732 t733 w _ ?side1 ?side2 ?side3 ?side4 ?side5 A7.out).mono ?_); (case side1 => exact zI65 HI712); (case side2 => exact zY65 HB); (case side3 => repeat (first | exact (Kd.R_reads' HO730.out).2.2 | (with_reducible refine Kd.C_alloc ?_ _) | (with_reducible refine Kd.C_drewN ?_ _) | (with_reducible refine Kd.C_drew ?_))); (case side4 => exact (Kd.R_reads' HO730.out).2.1); (case side5 => exact far_slice (IsS65.own_ne HI712.out HO730.out (by decide))); rintro e w21 ⟨rfl, hi, hb, hk⟩; refine ⟨_, rfl, ?_⟩; have n1_ := Aside0.mk (Kd.R_mono (Kd.R_keep (IsS65.apart (show IsS65 w _ gb712 l0 t726 t727 from (zI65 HI712)) (zs HO718) (by decide)) hk (fun _ h => h.2)) (fun _ h => h.1)); have n2_ := Aside0.mk (Kd.R_mono (Kd.R_keep (IsS65.apart (show IsS65 w _ gb712 l0 t726 t727 from (zI65 HI712)) (zs HO730) (by decide)) hk (fun _ h => h.2)) (fun _ h => h.1)); replace BK711 := zKB BK711 hk; replace HB := Aside0.mk hb; replace HI712 := Aside0.mk hi; clear HO718; have HO718 := n1_; clear n1_; clear HO730; have HO730 := n2_; clear n2_; clear hb hk hi) | ((with_reducible refine gate_dst (N := 23) rfl ?_); refine Kd.R_lit (Kd.int .i64) _ 3 ?hg (N := 23) ?hd (xs := ([(-1), 0, 1, 2, 200, 201, 4611686018427387904] : List Int)) (inner := [.int .i64 (-1), .int .i64 0, .int .i64 1, .int .i64 2, .int .i64 200, .int .i64 201, .int .i64 4611686018427387904]) (ok := fun _ => True) (okp := fun _ => True) ?hr ?hp (fun _ hk => hk) trivial (Below.refl _ _) (Nat.le_refl _) (by simp) ?_; (case hd => rfl); (case hg => rfl); (case hr => first | (go_simp; done) | (go_simp; rfl)); (case hp => exact (Reps.one (show Kd.M (Kd.int .i64) _ _ _ (-1) [.int .i64 (-1)] from rfl) (Reps.one (show Kd.M (Kd.int .i64) _ _ _ 0 [.int .i64 0] from rfl) (Reps.one (show Kd.M (Kd.int .i64) _ _ _ 1 [.int .i64 1] from rfl) (Reps.one (show Kd.M (Kd.int .i64) _ _ _ 2 [.int .i64 2] from rfl) (Reps.one (show Kd.M (Kd.int .i64) _ _ _ 200 [.int .i64 200] from rfl) (Reps.one (show Kd.M (Kd.int .i64) _ _ _ 201 [.int .i64 201] from rfl) (Reps.one (show Kd.M (Kd.int .i64) _ _ _ 4611686018427387904 [.int .i64 4611686018427387904] from rfl) (Reps.none _ _))))))))); intro v735 w22 ho23 hb hg_ hnew_; clear hg_ hnew_; (first | rw [← Ny734.out] at ho23 | (simp only [Int.reduceToNat] at ho23; rw [← Ny734.out] at ho23)); have n0_ := Aside0.mk (Kd.R_elder' (zs HO718) (Kd.R_base ho23) hb); have n1_ := Aside0.mk (Kd.R_elder' (zs HO730) (Kd.R_base ho23) hb); have HO736 := Aside0.mk (Kd.R_lower (Kd.R_new' (Kd.R_new' ho23 (Kd.R_lt (zs HO718))) (Kd.R_lt (zs HO730))) (below_size (zY65 HB))); replace BK711 := zb BK711 hb; replace HI712 := zJ65 HI712 hb; replace HB := zH65 HB hb; clear HO718; have HO718 := n0_; clear n0_; clear HO730; have HO730 := n1_; clear n1_; clear hb ho23; obtain ⟨Ao24, co24, eo24⟩ := Kd.R_slice HO736.out; subst eo24) | ((with_reducible refine gate_callee (f := 34) rfl ?_); refine zG (some 24) Try.func34 #[.pointer (some ⟨gb712, 0, none⟩), .slice Ao24 y734.length co24] ?_; (with_reducible refine (spec_l1Cur_among.calls gb712 l0 t732 t733 _ _ y734 t737 t738 t739 w _ ?side1 ?side2 ?side3 ?side4 ?side5 A8.out).mono ?_); (case side1 => exact zI65 HI712); (case side2 => exact zY65 HB); (case side3 => repeat (first | exact (Kd.R_reads' HO736.out).2.2 | (with_reducible refine Kd.C_alloc ?_ _) | (with_reducible refine Kd.C_drewN ?_ _) | (with_reducible refine Kd.C_drew ?_))); (case side4 => exact (Kd.R_reads' HO736.out).2.1); (case side5 => exact far_slice (IsS65.own_ne HI712.out HO736.out (by decide))); rintro e w25 ⟨rfl, hi, hb, hk⟩; refine ⟨_, rfl, ?_⟩; have n1_ := Aside0.mk (Kd.R_mono (Kd.R_keep (IsS65.apart (show IsS65 w _ gb712 l0 t732 t733 from (zI65 HI712)) (zs HO718) (by decide)) hk (fun _ h => h.2)) (fun _ h => h.1)); have n2_ := Aside0.mk (Kd.R_mono (Kd.R_keep (IsS65.apart (show IsS65 w _ gb712 l0 t732 t733 from (zI65 HI712)) (zs HO730) (by decide)) hk (fun _ h => h.2)) (fun _ h => h.1)); have n3_ := Aside0.mk (Kd.R_mono (Kd.R_keep (IsS65.apart (show IsS65 w _ gb712 l0 t732 t733 from (zI65 HI712)) (zs HO736) (by decide)) hk (fun _ h => h.2)) (fun _ h => h.1)); replace BK711 := zKB BK711 hk; replace HB := Aside0.mk hb; replace HI712 := Aside0.mk hi; clear HO718; have HO718 := n1_; clear n1_; clear HO730; have HO730 := n2_; clear n2_; clear HO736; have HO736 := n3_; clear n3_; clear hb hk hi; have hnb26 := NB711_712.out; have hnc26 := NB712_711.out; obtain ⟨_, _, _, _, _, _⟩ := zc3 BK711))
  refine bodyPost_ret (results_tc rfl _ _ gb711 39 #[.int .i64 (wrap64 (t722 - (wrap64 (Int.tdiv t725 8)))), .int .i64 t731, .int .i64 t737] (0, 0) _ rfl (zw BK711) Try.underlying39 rfl (by kernel_rfl)) rfl ?_
  exact ⟨zt, zY65 HB⟩
 ·replace c3 := Bool.eq_false_iff.mpr c3
  subst c3; rw [if_neg (show ¬ (false = true) by decide)] at H; replace H := Option.bind_eq_some_iff.mp H; obtain ⟨⟨t740, t741, t742⟩, A280, H⟩ := H
  replace H : ((spec_l1Cur_clue.f k l0 t741 t742).bind fun bt743 => (some (wrap64 (1 + t740), bt743.1, bt743.2.1, bt743.2.2.1))) = some (r1, r2, r3, r4) := H
  have A28 := Aside0.mk A280; clear A280; replace H := Option.bind_eq_some_iff.mp H; obtain ⟨⟨t743, t744, t745, t746, t747⟩, A290, H⟩ := H
  replace H : (some (wrap64 (1 + t740), t743, t744, t745)) = some (r1, r2, r3, r4) := H
  have A29 := Aside0.mk A290; clear A290; simp only [Option.some.injEq, Prod.mk.injEq] at H; obtain ⟨rfl, rfl, rfl, rfl⟩ := H
  go_enter Try.func29, Try.ntmps29
  go_wp2_with (first | ((with_reducible refine gate_dst (N := 3) rfl ?_); refine zE 3 #[.int .i64 0, .int .i64 0, .int .i64 0] 39 ?_; intro gb711 hg w30 hbox hb; have BK711 := Aside0.mk (hbox); have GW711 := zg HB hg; have GE711 := GW711; replace HB := zh HB hb; clear hb hbox hg) | ((with_reducible refine gate_dst (N := 7) rfl ?_); refine zE 7 #[.slice A0 l0.length c0, .int .i64 0, .int .u64 0] 65 ?_; intro gb712 hg w31 hbox hb; have HI712 := Aside0.mk ((show IsS65 w _ gb712 l0 0 0 from ⟨_, _, hbox, (by rw [hg]; exact (below_size (zy HB)) : w.heap.size ≤ gb712), HR0.out⟩)); have GW712 := zg HB hg; have GE712 := GW712; have NB711_712 := zl BK711 hg; have NB712_711 := zr BK711 hg; replace BK711 := zb BK711 hb; replace HB := zh HB hb; clear hb hbox hg) | ((with_reducible refine gate_callee (f := 32) rfl ?_); refine zG (some 9) Try.func32 #[.pointer (some ⟨gb712, 0, none⟩), .int .i64 3] ?_; (with_reducible refine (spec_l1Cur_one.calls gb712 l0 0 0 3 false t714 t715 w _ ?side1 ?side2 A2.out).mono ?_); (case side1 => exact zI65 HI712); (case side2 => exact zY65 HB); rintro e w32 ⟨rfl, hi, hb, hk⟩; refine ⟨_, rfl, ?_⟩; replace BK711 := zKB BK711 hk; replace HB := Aside0.mk hb; replace HI712 := Aside0.mk hi; clear hb hk hi) | ((with_reducible refine gate_callee (f := 36) rfl ?_); refine zG (some 27) Try.func36 #[.pointer (some ⟨gb712, 0, none⟩), .int .i64 12] ?_; (with_reducible refine (spec_l1Cur_pick.calls gb712 l0 t714 t715 12 t740 t741 t742 w _ ?side1 ?side2 A28.out).mono ?_); (case side1 => exact zI65 HI712); (case side2 => exact zY65 HB); rintro e w33 ⟨rfl, hi, hb, hk⟩; refine ⟨_, rfl, ?_⟩; replace BK711 := zKB BK711 hk; replace HB := Aside0.mk hb; replace HI712 := Aside0.mk hi; clear hb hk hi) | ((with_reducible refine gate_callee (f := 63) rfl ?_); refine zG (some 30) Try.func63 #[.pointer (some ⟨gb712, 0, none⟩)] ?_; (with_reducible refine (spec_l1Cur_clue.calls k gb712 l0 t741 t742 t743 t744 t745 t746 t747 w _ ?side1 ?side2 A29.out).mono ?_); (case side1 => exact zI65 HI712); (case side2 => exact zY65 HB); rintro e w34 ⟨rfl, hi, hb, hk⟩; refine ⟨_, rfl, ?_⟩; replace BK711 := zKB BK711 hk; replace HB := Aside0.mk hb; replace HI712 := Aside0.mk hi; clear hb hk hi; have hnb35 := NB711_712.out; have hnc35 := NB712_711.out; obtain ⟨_, _, _, _, _, _⟩ := zc3 BK711))
  refine bodyPost_ret (results_tc rfl _ _ gb711 39 #[.int .i64 t743, .int .i64 t744, .int .i64 t745] (0, 0) _ rfl (zw BK711) Try.underlying39 rfl (by kernel_rfl)) rfl ?_
  exact ⟨zt, zY65 HB⟩


/-! ### impl_IsClue: function 30 -/
def impl_IsClue.f (k : Nat) (a0 : Int) (a1_0 : Int) (a1_1 : Int) (a1_2 : Int) : Option (Bool) := (impl_isSmall.f a0).bind fun t749 => (if t749 = true then ((impl_isClue.f k a1_0 a1_1 a1_2).bind fun t750 => (some t750)) else (some false))
set_option maxHeartbeats 8000000 in
set_option maxRecDepth 100000 in
theorem impl_IsClue.calls (k : Nat) (a0 : Int) (a1_0 : Int) (a1_1 : Int) (a1_2 : Int) (r : Bool) (w : World) (h : impl_IsClue.f k a0 a1_0 a1_1 a1_2 = some r) :
  Calls Try.prog 30 #[.int .i64 a0, .agg #[.int .i64 a1_0, .int .i64 a1_1, .int .i64 a1_2]] w fun e w' => e = .returned (.bool r) ∧ Below w.heap.size w w' := by
 have hu39 := Try.underlying39
 have HB := Aside0.mk (Below.refl w.heap.size w)
 have H : ((impl_isSmall.f a0).bind fun t749 => (if t749 = true then ((impl_isClue.f k a1_0 a1_1 a1_2).bind fun t750 => (some t750)) else (some false))) = some r := h
 clear h; replace H := Option.bind_eq_some_iff.mp H; obtain ⟨t749, A30, H⟩ := H
 replace H : (if t749 = true then ((impl_isClue.f k a1_0 a1_1 a1_2).bind fun t750 => (some t750)) else (some false)) = some r := H
 have A3 := Aside0.mk A30; clear A30
 by_cases c4 : t749 = true
 ·subst c4
  rw [if_pos rfl] at H; replace H := Option.bind_eq_some_iff.mp H; obtain ⟨t750, A50, H⟩ := H
  replace H : (some t750) = some r := H
  have A5 := Aside0.mk A50; clear A50
  obtain rfl := Option.some.inj H
  go_enter Try.func30, Try.ntmps30
  go_wp2_with (first | ((with_reducible refine gate_dst (N := 3) rfl ?_); refine zE 3 #[.int .i64 a1_0, .int .i64 a1_1, .int .i64 a1_2] 39 ?_; intro gb748 hg w6 hbox hb; have BK748 := Aside0.mk (hbox); have GW748 := zg HB hg; have GE748 := GW748; replace HB := zh HB hb; clear hb hbox hg) | ((with_reducible refine gate_callee (f := 51) rfl ?_); refine zG (some 6) Try.func51 #[.int .i64 a0] ?_; (with_reducible refine (impl_isSmall.calls a0 true _ A3.out).mono ?_); rintro e w' ⟨rfl, ⟨nd, rfl⟩⟩; refine ⟨_, rfl, ?_⟩; obtain ⟨_, _, _, _, _, _⟩ := zc3 BK748) | (go_at_call 47; (with_reducible refine (impl_isClue.calls k a1_0 a1_1 a1_2 t750 _ A5.out).mono ?_); rintro e w8 ⟨rfl, hb⟩; replace BK748 := zb BK748 hb; replace HB := zh HB hb; clear hb))
  go_ret
  exact ⟨zt, zy HB⟩
 ·replace c4 := Bool.eq_false_iff.mpr c4
  subst c4; rw [if_neg (show ¬ (false = true) by decide)] at H
  obtain rfl := Option.some.inj H
  go_enter Try.func30, Try.ntmps30
  go_wp2_with (first | ((with_reducible refine gate_dst (N := 3) rfl ?_); refine zE 3 #[.int .i64 a1_0, .int .i64 a1_1, .int .i64 a1_2] 39 ?_; intro gb748 hg w9 hbox hb; have BK748 := Aside0.mk (hbox); have GW748 := zg HB hg; have GE748 := GW748; replace HB := zh HB hb; clear hb hbox hg) | ((with_reducible refine gate_callee (f := 51) rfl ?_); refine zG (some 6) Try.func51 #[.int .i64 a0] ?_; (with_reducible refine (impl_isSmall.calls a0 false _ A3.out).mono ?_); rintro e w' ⟨rfl, ⟨nd, rfl⟩⟩; refine ⟨_, rfl, ?_⟩))
  go_ret
  exact ⟨zt, zy HB⟩


/-! ### spec_IsClue: function 31 -/
def spec_IsClue.f (k : Nat) (a0 : Int) (a1_0 : Int) (a1_1 : Int) (a1_2 : Int) : Option (Bool) := (spec_pzWide.f a0).bind fun t752 => (if t752 = true then ((spec_pzClue.f k a1_0 a1_1 a1_2).bind fun t753 => (some t753)) else (some false))
set_option maxHeartbeats 8000000 in
set_option maxRecDepth 100000 in
theorem spec_IsClue.calls (k : Nat) (a0 : Int) (a1_0 : Int) (a1_1 : Int) (a1_2 : Int) (r : Bool) (w : World) (h : spec_IsClue.f k a0 a1_0 a1_1 a1_2 = some r) :
  Calls Try.prog 31 #[.int .i64 a0, .agg #[.int .i64 a1_0, .int .i64 a1_1, .int .i64 a1_2]] w fun e w' => e = .returned (.bool r) ∧ Below w.heap.size w w' := by
 have hu39 := Try.underlying39
 have HB := Aside0.mk (Below.refl w.heap.size w)
 have H : ((spec_pzWide.f a0).bind fun t752 => (if t752 = true then ((spec_pzClue.f k a1_0 a1_1 a1_2).bind fun t753 => (some t753)) else (some false))) = some r := h
 clear h; replace H := Option.bind_eq_some_iff.mp H; obtain ⟨t752, A30, H⟩ := H
 replace H : (if t752 = true then ((spec_pzClue.f k a1_0 a1_1 a1_2).bind fun t753 => (some t753)) else (some false)) = some r := H
 have A3 := Aside0.mk A30; clear A30
 by_cases c4 : t752 = true
 ·subst c4
  rw [if_pos rfl] at H; replace H := Option.bind_eq_some_iff.mp H; obtain ⟨t753, A50, H⟩ := H
  replace H : (some t753) = some r := H
  have A5 := Aside0.mk A50; clear A50
  obtain rfl := Option.some.inj H
  go_enter Try.func31, Try.ntmps31
  go_wp2_with (first | ((with_reducible refine gate_dst (N := 3) rfl ?_); refine zE 3 #[.int .i64 a1_0, .int .i64 a1_1, .int .i64 a1_2] 39 ?_; intro gb751 hg w6 hbox hb; have BK751 := Aside0.mk (hbox); have GW751 := zg HB hg; have GE751 := GW751; replace HB := zh HB hb; clear hb hbox hg) | ((with_reducible refine gate_callee (f := 66) rfl ?_); refine zG (some 6) Try.func66 #[.int .i64 a0] ?_; (with_reducible refine (spec_pzWide.calls a0 true _ A3.out).mono ?_); rintro e w' ⟨rfl, ⟨nd, rfl⟩⟩; refine ⟨_, rfl, ?_⟩; obtain ⟨_, _, _, _, _, _⟩ := zc3 BK751) | (go_at_call 64; (with_reducible refine (spec_pzClue.calls k a1_0 a1_1 a1_2 t753 _ A5.out).mono ?_); rintro e w8 ⟨rfl, hb⟩; replace BK751 := zb BK751 hb; replace HB := zh HB hb; clear hb))
  go_ret
  exact ⟨zt, zy HB⟩
 ·replace c4 := Bool.eq_false_iff.mpr c4
  subst c4; rw [if_neg (show ¬ (false = true) by decide)] at H
  obtain rfl := Option.some.inj H
  go_enter Try.func31, Try.ntmps31
  go_wp2_with (first | ((with_reducible refine gate_dst (N := 3) rfl ?_); refine zE 3 #[.int .i64 a1_0, .int .i64 a1_1, .int .i64 a1_2] 39 ?_; intro gb751 hg w9 hbox hb; have BK751 := Aside0.mk (hbox); have GW751 := zg HB hg; have GE751 := GW751; replace HB := zh HB hb; clear hb hbox hg) | ((with_reducible refine gate_callee (f := 66) rfl ?_); refine zG (some 6) Try.func66 #[.int .i64 a0] ?_; (with_reducible refine (spec_pzWide.calls a0 false _ A3.out).mono ?_); rintro e w' ⟨rfl, ⟨nd, rfl⟩⟩; refine ⟨_, rfl, ?_⟩))
  go_ret
  exact ⟨zt, zy HB⟩

end Go.Proofs.Ytopoopkobfdjjaa.P
