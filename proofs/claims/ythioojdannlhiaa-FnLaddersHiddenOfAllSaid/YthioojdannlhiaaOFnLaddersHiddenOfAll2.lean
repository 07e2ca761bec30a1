/- The law FnLaddersHiddenOfAll is proved: a call of it returns true and leaves its arguments as they were; and what this needs. Every input that the given rows speak of; nothing else is asked. -/
import Derived.Test.YthioojdannlhiaaOFnLaddersHiddenOfAll0
import Derived.Test.YthioojdannlhiaaOFnLaddersHiddenOfAll1
namespace Go.Proofs.Ythioojdannlhiaa.P
open Go.RowKit Go.Proofs.YthioojdannlhiaaW.PrintWords Go.Proofs.YthioojdannlhiaaW.PrintLast Go.Proofs.YthioojdannlhiaaW.PrintMore
set_option linter.unusedVariables false
theorem zO2_0 {p : Prop} (h : p := by (with_reducible repeat (first | apply Kd.R_alloc | apply Kd.R_drewN | apply Kd.R_drew)); exact Kd.R_mono HO526.out (fun _ hk => ⟨hk.1.2, hk.2⟩)) : p := h
theorem zO2_1 {p : Prop} (h : p := by (with_reducible repeat (first | apply Kd.R_alloc | apply Kd.R_drewN | apply Kd.R_drew)); exact Kd.R_mono HO526.out (fun _ hk => ⟨hk.2, hk.1⟩)) : p := h
theorem zO2_2 {p : Prop} (h : p := by (try simp only [List.map_toArray, List.map_cons, List.map_nil]); first | done | rfl | (simp only [List.length_drop, List.length_take]; rfl)) : p := h
theorem zO2_3 {p : Prop} (h : p := by simp only [putAll, Act.put, List.setIfInBounds_toArray, List.set_cons_zero, List.set_cons_succ]) : p := h
end Go.Proofs.Ythioojdannlhiaa.P
namespace Go.Proofs.Ythioojdannlhiaa.P
open Go.RowKit Go.Proofs.YthioojdannlhiaaW.PrintWords Go.Proofs.YthioojdannlhiaaW.PrintLast Go.Proofs.YthioojdannlhiaaW.PrintMore
attribute [local go_sem] max2_int min2_int max_two min_two max_three min_three max_four min_four   -- for this text's walks alone
set_option linter.unusedVariables false
set_option linter.unusedSimpArgs false

/-! ### impl_AddClue: function 30 -/
def impl_AddClue.f (k : Nat) (a0_0 : Int) (l0_1 : List (S43)) (a1_0 : Int) (a1_1 : Int) (a1_2 : Int) : Option (Int × (List (S43)) × Bool) := (impl_IsPuzzle.f k a0_0 l0_1).bind fun t502 => (if t502 = true then ((impl_isClue.f k a1_0 a1_1 a1_2).bind fun t503 => (if t503 = true then (if (l0_1.length : Int) = 6 then (some (0, ([] : List (S43)), false)) else ((impl_Clue_50.f l0_1).bind fun t504 => ((some (([(⟨a1_0, a1_1, a1_2⟩ : S43)] : List (S43)) : List (S43))).bind fun y507 => (if t504.length + y507.length < 5864062014805 then (some (a0_0, (t504 ++ y507), true)) else (none))))) else (some (0, ([] : List (S43)), false)))) else (some (0, ([] : List (S43)), false)))
def impl_AddClue.T3 : Bool × List (List Nat × List Nat) := (true, [([], []), ([0], [0]), ([], []), ([2], [2]), ([3], [3]), ([], []), ([5], [5]), ([4, 6, 4], [4, 6]), ([1, 7], [1, 7]), ([8, 7, 0, 1, 2, 3, 4, 5, 6, 7, 8], [8]), ([9, 0, 1, 2, 3, 4, 5, 6, 7, 8, 9], [])])
def impl_AddClue.B3 : List Nat := [0, 1, 0, 4, 12, 0, 32, 124, 255, 511, 1023]
theorem impl_AddClue.tab3 : rtab .any (opsOf Try.f30 3) = impl_AddClue.T3 := by kernel_rfl
theorem impl_AddClue.bits3 : waitsOk impl_AddClue.T3.2 impl_AddClue.B3 = true := by kernel_rfl
set_option maxHeartbeats 8000000 in
set_option maxRecDepth 100000 in
theorem impl_AddClue.calls (k : Nat) (a0_0 : Int) (A0_1 : Option Addr) (c0_1 : Nat) (l0_1 : List (S43)) (a1_0 : Int) (a1_1 : Int) (a1_2 : Int) (r1 : Int) (r2 : List (S43)) (r3 : Bool) (w : World) (hr0_1 : Kd.C k43 w A0_1 l0_1.length l0_1) (hc0_1 : l0_1.length ≤ c0_1) (h : impl_AddClue.f k a0_0 l0_1 a1_0 a1_1 a1_2 = some (r1, r2, r3)) :
  Calls Try.prog 30 #[.agg #[.int .i64 a0_0, .slice A0_1 l0_1.length c0_1], .agg #[.int .i64 a1_0, .int .i64 a1_1, .int .i64 a1_2]] w fun e w' => ∃ v1_ : Value, e = .returned (.tuple #[.agg #[.int .i64 r1, v1_], .bool r3]) ∧ Kd.R k43 43 w' w.heap.size (fun _ => True) v1_ r2 ∧ Below w.heap.size w w' := by
 have hu28 := Try.underlying28; have hu43 := Try.underlying43; have HR0_1 := Aside0.mk hr0_1; have HC0_1 := Aside0.mk hc0_1; clear hr0_1 hc0_1
 have HB := Aside0.mk (Below.refl w.heap.size w)
 have H : ((impl_IsPuzzle.f k a0_0 l0_1).bind fun t502 => (if t502 = true then ((impl_isClue.f k a1_0 a1_1 a1_2).bind fun t503 => (if t503 = true then (if (l0_1.length : Int) = 6 then (some (0, ([] : List (S43)), false)) else ((impl_Clue_50.f l0_1).bind fun t504 => ((some (([(⟨a1_0, a1_1, a1_2⟩ : S43)] : List (S43)) : List (S43))).bind fun y507 => (if t504.length + y507.length < 5864062014805 then (some (a0_0, (t504 ++ y507), true)) else (none))))) else (some (0, ([] : List (S43)), false)))) else (some (0, ([] : List (S43)), false)))) = some (r1, r2, r3) := h
 clear h; replace H := Option.bind_eq_some_iff.mp H; obtain ⟨t502, A30, H⟩ := H; (try dsimp only at H); have A3 := Aside0.mk A30; clear A30
 by_cases c4 : t502 = true
 ·subst c4
  rw [if_pos rfl] at H; replace H := Option.bind_eq_some_iff.mp H; obtain ⟨t503, A50, H⟩ := H; (try dsimp only at H); have A5 := Aside0.mk A50; clear A50
  by_cases c6 : t503 = true
  ·subst c6
   rw [if_pos rfl] at H
   by_cases c7 : (l0_1.length : Int) = 6
   ·rw [if_pos c7] at H
    have c7b0 : ((l0_1.length : Int) == 6) = true := beq_iff_eq.mpr c7
    have c7b1 : ((l0_1.length : Int) != 6) = false := bne_eq_false_iff_eq.mpr c7
    clear c7; simp only [Option.some.injEq, Prod.mk.injEq] at H; obtain ⟨rfl, rfl, rfl⟩ := H
    go_enter Try.func30, Try.ntmps30
    go_wp2_with (first | ((with_reducible refine gate_dst (N := 2) rfl ?_); (try (refine gate_guard (by rfl) ?_; dsimp only)); refine zE 2 #[.int .i64 a0_0, .slice A0_1 l0_1.length c0_1] 28 ?_; intro gb499 hg w8 hbox hb; have BK499 := Aside0.mk (hbox); have GW499 := zg HB hg; have GE499 := GW499; replace HB := zh HB hb; clear hb hbox hg) | ((with_reducible refine gate_dst (N := 3) rfl ?_); (try (refine gate_guard (by rfl) ?_; dsimp only)); refine zE 3 #[.int .i64 a1_0, .int .i64 a1_1, .int .i64 a1_2] 43 ?_; intro gb500 hg w9 hbox hb; have BK500 := Aside0.mk (hbox); have GW500 := zg HB hg; have GE500 := GW500; have NB499_500 := zl BK499 hg; have NB500_499 := zr BK499 hg; replace BK499 := zb BK499 hb; replace HB := zh HB hb; clear hb hbox hg) | ((with_reducible refine gate_dst (N := 4) rfl ?_); (try (refine gate_guard (by rfl) ?_; dsimp only)); refine zE 4 #[.int .i64 0, .slice none 0 0] 28 ?_; intro gb501 hg w10 hbox hb; have BK501 := Aside0.mk (hbox); have GW501 := zg HB hg; have GE501 := GW501; have NB499_501 := zl BK499 hg; have NB501_499 := zr BK499 hg; have NB500_501 := zl BK500 hg; have NB501_500 := zr BK500 hg; replace BK499 := zb BK499 hb; replace BK500 := zb BK500 hb; replace HB := zh HB hb; clear hb hbox hg; have hnb11 := NB499_500.out; have hnc11 := NB500_499.out; have hnb12 := NB499_501.out; have hnc12 := NB501_499.out; obtain ⟨_, _, _, _⟩ := zc2 BK499) | ((with_reducible refine gate_callee (f := 26) rfl ?_); refine zG (some 7) Try.func26 #[.agg #[.int .i64 a0_0, .slice A0_1 l0_1.length c0_1]] ?_; (with_reducible refine (impl_IsPuzzle.calls k a0_0 _ _ l0_1 true _ ?side1 ?side2 A3.out).mono ?_); (case side1 => repeat (first | exact (Kd.C_below HR0_1.out HB.out) | (with_reducible refine Kd.C_alloc ?_ _) | (with_reducible refine Kd.C_drewN ?_ _) | (with_reducible refine Kd.C_drew ?_))); (case side2 => exact HC0_1.out); rintro e w14 ⟨rfl, hb⟩; refine ⟨_, rfl, ?_⟩; replace BK499 := zb BK499 hb; replace BK500 := zb BK500 hb; replace BK501 := zb BK501 hb; replace HB := zh HB hb; clear hb; have hnb15 := NB500_501.out; have hnc15 := NB501_500.out; obtain ⟨_, _, _, _, _, _⟩ := zc3 BK500) | (go_at_call 68; (with_reducible refine (impl_isClue.calls k a1_0 a1_1 a1_2 true _ A5.out).mono ?_); rintro e w17 ⟨rfl, hb⟩; replace BK499 := zb BK499 hb; replace BK500 := zb BK500 hb; replace BK501 := zb BK501 hb; replace HB := zh HB hb; clear hb; obtain ⟨_, _, _, _⟩ := zc2 BK499; obtain ⟨_, _, _, _⟩ := zc2 BK501))
    refine bodyPost_ret (results_ct rfl _ _ gb501 28 #[.int .i64 0, .slice none 0 0] (0, 0) _ rfl (zw BK501) Try.underlying28 rfl (by kernel_rfl)) rfl ?_
    exact ⟨_, zt, by first | exact Kd.R_nil _ _ _ _ _ | exact Kd.N_nil _ _ _ _ _ | exact Kd.V_nil _ _ _ _ _ | exact Kd.Q_nil _ _ _ _ _ | exact Kd.S_nil _ _ _ _ _, zy HB⟩
   ·rw [if_neg c7] at H
    have c7b0 : ((l0_1.length : Int) == 6) = false := beq_eq_false_iff_ne.mpr c7
    have c7b1 : ((l0_1.length : Int) != 6) = true := bne_iff_ne.mpr c7
    replace H := Option.bind_eq_some_iff.mp H; obtain ⟨t504, A200, H⟩ := H; (try dsimp only at H); have A20 := Aside0.mk A200; clear A200
    obtain ⟨y507, hy507⟩ : ∃ y_ : List (S43), y_ = (([(⟨a1_0, a1_1, a1_2⟩ : S43)] : List (S43))) := ⟨_, rfl⟩
    replace H : (if t504.length + y507.length < 5864062014805 then (some (a0_0, (t504 ++ y507), true)) else (none)) = some (r1, r2, r3) := by first | (rw [hy507]; with_reducible exact H) | (have H2_ := (Option.bind_some _ _).symm.trans H; rw [hy507]; with_reducible exact H2_) | (have H2_ := (Option.bind_some _ _).symm.trans H; with_reducible exact H2_) | with_reducible exact H | (rw [hy507]; exact H) | exact H
    have Ny507 := Aside0.mk hy507; clear hy507
    by_cases c21 : t504.length + y507.length < 5864062014805
    ·rw [if_pos c21] at H
     have LMc21 := Aside0.mk c21; clear c21
     obtain ⟨y510, hy510⟩ : ∃ y_ : List (S43), y_ = (t504 ++ y507) := ⟨_, rfl⟩
     replace H : (some (a0_0, y510, true)) = some (r1, r2, r3) := by first | (rw [hy510]; with_reducible exact H) | (have H2_ := (Option.bind_some _ _).symm.trans H; rw [hy510]; with_reducible exact H2_) | (have H2_ := (Option.bind_some _ _).symm.trans H; with_reducible exact H2_) | with_reducible exact H | (rw [hy510]; exact H) | exact H
     have Ny510 := Aside0.mk hy510; clear hy510; simp only [Option.some.injEq, Prod.mk.injEq] at H; obtain ⟨rfl, rfl, rfl⟩ := H
     go_enter Try.func30, Try.ntmps30
     try go_wp2_with (first | ((with_reducible refine gate_dst (N := 2) rfl ?_); (try (refine gate_guard (by rfl) ?_; dsimp only)); refine zE 2 #[.int .i64 a0_0, .slice A0_1 l0_1.length c0_1] 28 ?_; intro gb499 hg w22 hbox hb; have BK499 := Aside0.mk (hbox); have GW499 := zg HB hg; have GE499 := GW499; replace HB := zh HB hb; clear hb hbox hg) | ((with_reducible refine gate_dst (N := 3) rfl ?_); (try (refine gate_guard (by rfl) ?_; dsimp only)); refine zE 3 #[.int .i64 a1_0, .int .i64 a1_1, .int .i64 a1_2] 43 ?_; intro gb500 hg w23 hbox hb; have BK500 := Aside0.mk (hbox); have GW500 := zg HB hg; have GE500 := GW500; have NB499_500 := zl BK499 hg; have NB500_499 := zr BK499 hg; replace BK499 := zb BK499 hb; replace HB := zh HB hb; clear hb hbox hg) | ((with_reducible refine gate_dst (N := 4) rfl ?_); (try (refine gate_guard (by rfl) ?_; dsimp only)); refine zE 4 #[.int .i64 0, .slice none 0 0] 28 ?_; intro gb501 hg w24 hbox hb; have BK501 := Aside0.mk (hbox); have GW501 := zg HB hg; have GE501 := GW501; have NB499_501 := zl BK499 hg; have NB501_499 := zr BK499 hg; have NB500_501 := zl BK500 hg; have NB501_500 := zr BK500 hg; replace BK499 := zb BK499 hb; replace BK500 := zb BK500 hb; replace HB := zh HB hb; clear hb hbox hg; have hnb25 := NB499_500.out; have hnc25 := NB500_499.out; have hnb26 := NB499_501.out; have hnc26 := NB501_499.out; obtain ⟨_, _, _, _⟩ := zc2 BK499) | ((with_reducible refine gate_callee (f := 26) rfl ?_); refine zG (some 7) Try.func26 #[.agg #[.int .i64 a0_0, .slice A0_1 l0_1.length c0_1]] ?_; (with_reducible refine (impl_IsPuzzle.calls k a0_0 _ _ l0_1 true _ ?side1 ?side2 A3.out).mono ?_); (case side1 => repeat (first | exact (Kd.C_below HR0_1.out HB.out) | (with_reducible refine Kd.C_alloc ?_ _) | (with_reducible refine Kd.C_drewN ?_ _) | (with_reducible refine Kd.C_drew ?_))); (case side2 => exact HC0_1.out); rintro e w28 ⟨rfl, hb⟩; refine ⟨_, rfl, ?_⟩; replace BK499 := zb BK499 hb; replace BK500 := zb BK500 hb; replace BK501 := zb BK501 hb; replace HB := zh HB hb; clear hb; have hnb29 := NB500_501.out; have hnc29 := NB501_500.out; obtain ⟨_, _, _, _, _, _⟩ := zc3 BK500) | (go_at_call 68; (with_reducible refine (impl_isClue.calls k a1_0 a1_1 a1_2 true _ A5.out).mono ?_); rintro e w31 ⟨rfl, hb⟩; replace BK499 := zb BK499 hb; replace BK500 := zb BK500 hb; replace BK501 := zb BK501 hb; replace HB := zh HB hb; clear hb; obtain ⟨_, _, _, _⟩ := zc2 BK499))
     replace BK499 := Aside0.mk (blk_drew BK499.out); replace BK500 := Aside0.mk (blk_drew BK500.out); replace BK501 := Aside0.mk (blk_drew BK501.out); replace HB := Aside0.mk (below_drew1 HB.out)
     refine start_ (n := 11) (S := fun w' => w'.cell? ⟨gb499, 0, none⟩ = some (.int .i64 a0_0) ∧ w'.cell? ⟨gb499, 1, none⟩ = some (.slice A0_1 l0_1.length c0_1) ∧ w'.cell? ⟨gb500, 0, none⟩ = some (.int .i64 a1_0) ∧ w'.cell? ⟨gb500, 1, none⟩ = some (.int .i64 a1_1) ∧ w'.cell? ⟨gb500, 2, none⟩ = some (.int .i64 a1_2)) (ds := []) #[false, false, false, false, false, false, false, false, false, false, false] (by kernel_rfl) rfl rfl ⟨(blk_cell BK499.out 0).trans rfl, (blk_cell BK499.out 1).trans rfl, (blk_cell BK500.out 0).trans rfl, (blk_cell BK500.out 1).trans rfl, (blk_cell BK500.out 2).trans rfl⟩ (fun hHeld => ?_); refine with_tabW impl_AddClue.tab3 impl_AddClue.bits3 (fun HT_ HW_ => ?_)
     generalize w31.drew = w33 at BK499 BK500 BK501 HB hHeld ⊢
     refine zA 0 21 HT_ ?_
     refine zA 2 23 HT_ ?_
     refine zT 1 22 HT_ HW_ hHeld ?_
     refine zT 3 24 HT_ HW_ hHeld ?_
     refine zT 5 26 HT_ HW_ hHeld ?_
     refine join_ (σ := Value × Value) 4 #[true, true, true, true, true, true, true, false, false, false, false] (fun s_ => [(25, s_.1), (27, s_.2)]) (fun s_ w' => (w'.cell? ⟨gb499, 0, none⟩ = some (.int .i64 a0_0) ∧ w'.cell? ⟨gb499, 1, none⟩ = some (.slice A0_1 l0_1.length c0_1) ∧ w'.cell? ⟨gb500, 0, none⟩ = some (.int .i64 a1_0) ∧ w'.cell? ⟨gb500, 1, none⟩ = some (.int .i64 a1_1) ∧ w'.cell? ⟨gb500, 2, none⟩ = some (.int .i64 a1_2)) ∧ (Kd.R k43 43 w' w.heap.size (fun k_ => some k_ ≠ (s_.2 : Value).ownBlock ∧ k_ ≠ gb500) s_.1 t504) ∧ (Kd.R k43 43 w' w.heap.size (fun k_ => some k_ ≠ (s_.1 : Value).ownBlock ∧ k_ ≠ gb500) s_.2 y507) ∧ (w'.heap[gb499]? = some (.cells #[.int .i64 a0_0, .slice A0_1 l0_1.length c0_1] 28 (0, 0))) ∧ (w'.heap[gb500]? = some (.cells #[.int .i64 a1_0, .int .i64 a1_1, .int .i64 a1_2] 43 (0, 0))) ∧ (w'.heap[gb501]? = some (.cells #[.int .i64 0, .slice none 0 0] 28 (0, 0))) ∧ (Below w.heap.size w w')) ?_ ?_
     rotate_left
     ·intro hCont
      refine two_ (i := 4) (j := 6) (Ni := some 25) (Nj := some 27) #[true, true, true, true, true, true, false, false, false, false, false] #[true, true, true, true, false, true, true, false, false, false, false] rfl rfl rfl rfl (two_of HT_.out (by kernel_rfl)) (by decide) (by decide) (fun K hK => ?_) (fun K hK => ?_)
      ·skip
       refine goes_ Try.func50 (by kernel_rfl) rfl #[.slice A0_1 l0_1.length c0_1] (by rfl) rfl rfl zO2_2 ?_
       with_reducible refine (impl_Clue_50.calls _ _ l0_1 t504 _ ?side1 ?side2 A20.out).mono ?_
       (case side1 => repeat (first | exact (Kd.C_below HR0_1.out HB.out) | (with_reducible refine Kd.C_alloc ?_ _) | (with_reducible refine Kd.C_drewN ?_ _) | (with_reducible refine Kd.C_drew ?_)))
       (case side2 => exact HC0_1.out)
       rintro e w34 ⟨v505, rfl, ho0, hb⟩
       refine ⟨_, rfl, ?_⟩
       have HO506 := Aside0.mk (Kd.R_lower (Kd.R_newB ho0 (zq BK500)) (below_size (zy HB)))
       replace BK499 := zb BK499 hb; replace BK500 := zb BK500 hb; replace BK501 := zb BK501 hb; replace HB := zh HB hb
       (try clear hb)
       (try clear hb2)
       (try clear hk)
       (try clear hi)
       (try clear ho0)
       refine hK.out _ _ ⟨(blk_cell BK499.out 0).trans rfl, (blk_cell BK499.out 1).trans rfl, (blk_cell BK500.out 0).trans rfl, (blk_cell BK500.out 1).trans rfl, (blk_cell BK500.out 2).trans rfl⟩ (fun hHeld => ?_)
       clear hK K
       refine zN 25 ?_
       refine zO 6 (some 27) HT_ (fun K hK => ?_)
       refine Kd.R_lit_step k43 _ 43 ?hg (N := 27) ?hd (xs := ([(⟨a1_0, a1_1, a1_2⟩ : S43)] : List (S43))) (inner := [.int .i64 a1_0, .int .i64 a1_1, .int .i64 a1_2]) (ok := fun _ => True) (okp := fun _ => True) ?hr ?hp (fun _ hk => hk) trivial (Below.refl _ _) (Nat.le_refl _) (by simp) ?_; (case hd => rfl); (case hg => rfl); (case hr => first | (go_simp; done) | (go_simp; rfl)); (case hp => exact (Reps.c3 (show Kd.M k43 _ _ _ (⟨a1_0, a1_1, a1_2⟩ : S43) [.int .i64 a1_0, .int .i64 a1_1, .int .i64 a1_2] from (k43_mkM _ _ _ (⟨a1_0, a1_1, a1_2⟩ : S43) )) (Reps.none _ _)))
       intro v508 w35 ho36 hb hg_ hnew_
       clear hg_ hnew_
       (first | rw [← Ny507.out] at ho36 | (simp only [Int.reduceToNat] at ho36; rw [← Ny507.out] at ho36))
       have n0_ := Aside0.mk (Kd.R_elder' (zs HO506) (Kd.R_base ho36) hb)
       have HO509 := Aside0.mk (Kd.R_lower (Kd.R_newB (Kd.R_new' ho36 (Kd.R_lt (zs HO506))) (zq BK500)) (below_size (zy HB)))
       replace BK499 := zb BK499 hb; replace BK500 := zb BK500 hb; replace BK501 := zb BK501 hb; replace HB := zh HB hb; clear HO506; have HO506 := n0_; clear n0_; clear hb ho36
       refine hK.out _ _ ⟨(blk_cell BK499.out 0).trans rfl, (blk_cell BK499.out 1).trans rfl, (blk_cell BK500.out 0).trans rfl, (blk_cell BK500.out 1).trans rfl, (blk_cell BK500.out 2).trans rfl⟩ (fun hHeld => ?_)
       clear hK K
       refine zN 27 ?_
       exact norm_ zO2_3 (hCont (v505, v508) _ ⟨hHeld, (by (with_reducible repeat (first | apply Kd.R_alloc | apply Kd.R_drewN | apply Kd.R_drew)); exact Kd.R_mono HO506.out (fun _ hk => ⟨hk.2, hk.1.2⟩)), (by (with_reducible repeat (first | apply Kd.R_alloc | apply Kd.R_drewN | apply Kd.R_drew)); exact Kd.R_mono HO509.out (fun _ hk => ⟨hk.1.2, hk.2⟩)), (zq BK499), (zq BK500), (zq BK501), (zy HB)⟩)
      ·skip
       refine Kd.R_lit_step k43 _ 43 ?hg (N := 27) ?hd (xs := ([(⟨a1_0, a1_1, a1_2⟩ : S43)] : List (S43))) (inner := [.int .i64 a1_0, .int .i64 a1_1, .int .i64 a1_2]) (ok := fun _ => True) (okp := fun _ => True) ?hr ?hp (fun _ hk => hk) trivial (Below.refl _ _) (Nat.le_refl _) (by simp) ?_; (case hd => rfl); (case hg => rfl); (case hr => first | (go_simp; done) | (go_simp; rfl)); (case hp => exact (Reps.c3 (show Kd.M k43 _ _ _ (⟨a1_0, a1_1, a1_2⟩ : S43) [.int .i64 a1_0, .int .i64 a1_1, .int .i64 a1_2] from (k43_mkM _ _ _ (⟨a1_0, a1_1, a1_2⟩ : S43) )) (Reps.none _ _)))
       intro v508 w34 ho35 hb hg_ hnew_
       clear hg_ hnew_
       (first | rw [← Ny507.out] at ho35 | (simp only [Int.reduceToNat] at ho35; rw [← Ny507.out] at ho35))
       have HO509 := Aside0.mk (Kd.R_lower (Kd.R_newB ho35 (zq BK500)) (below_size (zy HB)))
       replace BK499 := zb BK499 hb; replace BK500 := zb BK500 hb; replace BK501 := zb BK501 hb; replace HB := zh HB hb; clear hb ho35
       refine hK.out _ _ ⟨(blk_cell BK499.out 0).trans rfl, (blk_cell BK499.out 1).trans rfl, (blk_cell BK500.out 0).trans rfl, (blk_cell BK500.out 1).trans rfl, (blk_cell BK500.out 2).trans rfl⟩ (fun hHeld => ?_)
       clear hK K
       refine zN 27 ?_
       refine zO 4 (some 25) HT_ (fun K hK => ?_)
       refine goes_ Try.func50 (by kernel_rfl) rfl #[.slice A0_1 l0_1.length c0_1] (by rfl) rfl rfl zO2_2 ?_
       with_reducible refine (impl_Clue_50.calls _ _ l0_1 t504 _ ?side1 ?side2 A20.out).mono ?_
       (case side1 => repeat (first | exact (Kd.C_below HR0_1.out HB.out) | (with_reducible refine Kd.C_alloc ?_ _) | (with_reducible refine Kd.C_drewN ?_ _) | (with_reducible refine Kd.C_drew ?_)))
       (case side2 => exact HC0_1.out)
       rintro e w36 ⟨v505, rfl, ho0, hb⟩
       refine ⟨_, rfl, ?_⟩
       have n0_ := Aside0.mk (Kd.R_elder' (zs HO509) (Kd.R_base ho0) hb)
       have HO506 := Aside0.mk (Kd.R_lower (Kd.R_newB (Kd.R_new' ho0 (Kd.R_lt (zs HO509))) (zq BK500)) (below_size (zy HB)))
       replace BK499 := zb BK499 hb; replace BK500 := zb BK500 hb; replace BK501 := zb BK501 hb; replace HB := zh HB hb; clear HO509; have HO509 := n0_; clear n0_
       (try clear hb)
       (try clear hb2)
       (try clear hk)
       (try clear hi)
       (try clear ho0)
       refine hK.out _ _ ⟨(blk_cell BK499.out 0).trans rfl, (blk_cell BK499.out 1).trans rfl, (blk_cell BK500.out 0).trans rfl, (blk_cell BK500.out 1).trans rfl, (blk_cell BK500.out 2).trans rfl⟩ (fun hHeld => ?_)
       clear hK K
       refine zN 25 ?_
       exact norm_ zO2_3 (hCont (v505, v508) _ ⟨hHeld, (by (with_reducible repeat (first | apply Kd.R_alloc | apply Kd.R_drewN | apply Kd.R_drew)); exact Kd.R_mono HO506.out (fun _ hk => ⟨hk.1.2, hk.2⟩)), (by (with_reducible repeat (first | apply Kd.R_alloc | apply Kd.R_drewN | apply Kd.R_drew)); exact Kd.R_mono HO509.out (fun _ hk => ⟨hk.2, hk.1.2⟩)), (zq BK499), (zq BK500), (zq BK501), (zy HB)⟩)
     rintro ⟨v505, v508⟩ w37 ⟨hS_, h0_, h1_, h2_, h3_, h4_, h5_⟩
     have n0_ : Aside0 (Kd.R k43 43 w37 w.heap.size (fun k_ => some k_ ≠ (v508 : Value).ownBlock ∧ k_ ≠ gb500) v505 t504) := ⟨h0_⟩
     have n1_ : Aside0 (Kd.R k43 43 w37 w.heap.size (fun k_ => some k_ ≠ (v505 : Value).ownBlock ∧ k_ ≠ gb500) v508 y507) := ⟨h1_⟩
     have n2_ : Aside0 (w37.heap[gb499]? = some (.cells #[.int .i64 a0_0, .slice A0_1 l0_1.length c0_1] 28 (0, 0))) := ⟨h2_⟩
     have n3_ : Aside0 (w37.heap[gb500]? = some (.cells #[.int .i64 a1_0, .int .i64 a1_1, .int .i64 a1_2] 43 (0, 0))) := ⟨h3_⟩
     have n4_ : Aside0 (w37.heap[gb501]? = some (.cells #[.int .i64 0, .slice none 0 0] 28 (0, 0))) := ⟨h4_⟩
     have n5_ : Aside0 (Below w.heap.size w w37) := ⟨h5_⟩
     clear BK499; clear BK500; clear BK501; clear HB; clear h0_ h1_ h2_ h3_ h4_ h5_; have HO506 := n0_; have HO509 := n1_; have BK499 := n2_; have BK500 := n3_; have BK501 := n4_; have HB := n5_; clear n0_ n1_ n2_ n3_ n4_ n5_
     have hHeld : w37.cell? ⟨gb499, 0, none⟩ = some (.int .i64 a0_0) ∧ w37.cell? ⟨gb499, 1, none⟩ = some (.slice A0_1 l0_1.length c0_1) ∧ w37.cell? ⟨gb500, 0, none⟩ = some (.int .i64 a1_0) ∧ w37.cell? ⟨gb500, 1, none⟩ = some (.int .i64 a1_1) ∧ w37.cell? ⟨gb500, 2, none⟩ = some (.int .i64 a1_2) := hS_
     obtain ⟨Ao39, co39, eo39⟩ := Kd.R_slice HO509.out
     (first | subst eo39 | (injection eo39 with f1_ f2_ f3_; have f4_ := f1_.symm; have f5_ := f3_.symm; clear f1_ f2_ f3_; subst f4_; subst f5_))
     refine norm_ (a' := ?_) ?_ ?_
     rotate_left
     ·simp only [putAll, Act.put, List.setIfInBounds_toArray, List.set_cons_zero, List.set_cons_succ]
      rfl
     refine zO 7 (some 28) HT_ (fun K hK => ?_)
     refine Kd.R_append_rows_step k43 (w0 := w) w.heap.size (by rfl) (.tmp 25) (.tmp 27) 26 43 (.agg #[(.int .i64 0), (.int .i64 0), (.int .i64 0)]) 24 rfl Try.underlying26 info43 rfl (by decide) (by omega) v505 t504 y507 _ _ _ (fun k_ => some k_ ≠ (.slice Ao39 y507.length co39 : Value).ownBlock ∧ k_ ≠ gb500) (fun _ => False) rfl rfl ?aO ?aR (fun _ _ h => h) (fun _ h => h.elim) ?aF ?aB ?aS ?aL ?_
     (case aR => repeat (first | exact (Kd.R_reads' HO509.out).2.2 | (with_reducible refine Kd.C_alloc ?_ _) | (with_reducible refine Kd.C_drewN ?_ _) | (with_reducible refine Kd.C_drew ?_)))
     (case aB => exact (zy HB))
     (case aF => exact (fun k_ hk => ⟨Kd.fresh' (Kd.R_lt (zs HO509)) k_ hk, Kd.freshB (zq BK500) k_ hk⟩))
     (case aO => exact (zs HO506))
     (case aS => exact (below_size (zy HB)))
     (case aL => have := LMc21.out; omega)
     intro v511 w38 ho hb hg hat
     rw [← Ny510.out] at ho
     have n0_ := Aside0.mk (blk_grown (zq BK499) hg (Kd.R_ne HO506.out BK499.out (by decide)))
     have n1_ := Aside0.mk (blk_grown (zq BK500) hg (Kd.R_away HO506.out (fun _ hk => hk.2)))
     have n2_ := Aside0.mk (blk_grown (zq BK501) hg (Kd.R_ne HO506.out BK501.out (by decide)))
     have n3_ := Aside0.mk (Kd.R_after (ok := (fun k_ => k_ ≠ gb500)) (by (with_reducible repeat (first | apply Kd.R_alloc | apply Kd.R_drewN | apply Kd.R_drew)); exact Kd.R_mono HO509.out (fun _ hk => ⟨hk.2, hk.1⟩)) hg hat)
     have HO512 := Aside0.mk (ho)
     replace HB := Aside0.mk hb
     clear HO506; clear BK499; have BK499 := n0_; clear n0_; clear BK500; have BK500 := n1_; clear n1_; clear BK501; have BK501 := n2_; clear n2_; clear HO509; have HO509 := n3_; clear n3_; clear ho hb hg hat
     obtain ⟨Ao40, co40, eo40⟩ := Kd.R_slice HO512.out
     (first | subst eo40 | (injection eo40 with f1_ f2_ f3_; have f4_ := f1_.symm; have f5_ := f3_.symm; clear f1_ f2_ f3_; subst f4_; subst f5_))
     refine hK.out _ _ ⟨(blk_cell BK499.out 0).trans rfl, (blk_cell BK499.out 1).trans rfl, (blk_cell BK500.out 0).trans rfl, (blk_cell BK500.out 1).trans rfl, (blk_cell BK500.out 2).trans rfl⟩ (fun hHeld => ?_)
     clear hK K
     refine zN 28 ?_
     refine zA 8 29 HT_ ?_
     refine zO 9 none HT_ (fun K hK => ?_)
     have hs41 : w38.cell? ⟨gb501, 0, none⟩ = some (.int .i64 0) := (blk_cell BK501.out 0).trans rfl
     have hfs41 := blk_frozen BK501.out 0
     have hns41_0 := NB499_501.out; have hns41_1 := NB500_501.out; have hms41_0 := NB501_499.out; have hms41_1 := NB501_500.out
     have hs42 : w38.cell? ⟨gb501, 1, none⟩ = some (.slice none 0 0) := (blk_cell BK501.out 1).trans rfl
     have hfs42 := blk_frozen BK501.out 1
     have hns42_0 := NB499_501.out; have hns42_1 := NB500_501.out; have hms42_0 := NB501_499.out; have hms42_1 := NB501_500.out
     refine skip_ (w1 := ?_) (by rfl) rfl ?_ ?_
     rotate_left
     ·go_simp
      rfl
     refine hK.out _ _ ⟨((cell_far (p := ⟨gb501, _, none⟩) NB499_501.out _).trans (((cell_far (p := ⟨gb501, _, none⟩) NB499_501.out _).trans (hHeld.1)))), ((cell_far (p := ⟨gb501, _, none⟩) NB499_501.out _).trans (((cell_far (p := ⟨gb501, _, none⟩) NB499_501.out _).trans (hHeld.2.1)))), ((cell_far (p := ⟨gb501, _, none⟩) NB500_501.out _).trans (((cell_far (p := ⟨gb501, _, none⟩) NB500_501.out _).trans (hHeld.2.2.1)))), ((cell_far (p := ⟨gb501, _, none⟩) NB500_501.out _).trans (((cell_far (p := ⟨gb501, _, none⟩) NB500_501.out _).trans (hHeld.2.2.2.1)))), ((cell_far (p := ⟨gb501, _, none⟩) NB500_501.out _).trans (((cell_far (p := ⟨gb501, _, none⟩) NB500_501.out _).trans (hHeld.2.2.2.2))))⟩ (fun hHeld => ?_)
     clear hK K
     refine zA 10 5 HT_ ?_
     refine done_ (done_of HT_.out (by kernel_rfl)) ?_
     try go_wp2
     refine bodyPost_ret (results_ct rfl _ _ gb501 28 #[.int .i64 a0_0, .slice Ao40 y510.length co40] (0, 0) _ rfl (zw BK501) Try.underlying28 rfl (by kernel_rfl)) rfl ?_
     exact ⟨_, zt, by (with_reducible repeat (first | apply Kd.R_alloc | apply Kd.R_drewN | apply Kd.R_drew)); exact Kd.R_mono (Kd.R_far (p := ⟨gb501, 1, none⟩) (Kd.R_far (p := ⟨gb501, 0, none⟩) (Kd.R_types HO512.out BK501.out (by decide)) (fun _ hk => hk.2) (.int .i64 a0_0)) (fun _ hk => hk.2) (.slice Ao40 y510.length co40)) (fun _ hk => trivial), zy HB⟩
    ·rw [if_neg c21] at H
     exact absurd H (by simp)
  ·replace c6 := Bool.eq_false_iff.mpr c6
   subst c6; rw [if_neg (show ¬ (false = true) by decide)] at H; simp only [Option.some.injEq, Prod.mk.injEq] at H; obtain ⟨rfl, rfl, rfl⟩ := H
   go_enter Try.func30, Try.ntmps30
   go_wp2_with (first | ((with_reducible refine gate_dst (N := 2) rfl ?_); (try (refine gate_guard (by rfl) ?_; dsimp only)); refine zE 2 #[.int .i64 a0_0, .slice A0_1 l0_1.length c0_1] 28 ?_; intro gb499 hg w43 hbox hb; have BK499 := Aside0.mk (hbox); have GW499 := zg HB hg; have GE499 := GW499; replace HB := zh HB hb; clear hb hbox hg) | ((with_reducible refine gate_dst (N := 3) rfl ?_); (try (refine gate_guard (by rfl) ?_; dsimp only)); refine zE 3 #[.int .i64 a1_0, .int .i64 a1_1, .int .i64 a1_2] 43 ?_; intro gb500 hg w44 hbox hb; have BK500 := Aside0.mk (hbox); have GW500 := zg HB hg; have GE500 := GW500; have NB499_500 := zl BK499 hg; have NB500_499 := zr BK499 hg; replace BK499 := zb BK499 hb; replace HB := zh HB hb; clear hb hbox hg) | ((with_reducible refine gate_dst (N := 4) rfl ?_); (try (refine gate_guard (by rfl) ?_; dsimp only)); refine zE 4 #[.int .i64 0, .slice none 0 0] 28 ?_; intro gb501 hg w45 hbox hb; have BK501 := Aside0.mk (hbox); have GW501 := zg HB hg; have GE501 := GW501; have NB499_501 := zl BK499 hg; have NB501_499 := zr BK499 hg; have NB500_501 := zl BK500 hg; have NB501_500 := zr BK500 hg; replace BK499 := zb BK499 hb; replace BK500 := zb BK500 hb; replace HB := zh HB hb; clear hb hbox hg; have hnb46 := NB499_500.out; have hnc46 := NB500_499.out; have hnb47 := NB499_501.out; have hnc47 := NB501_499.out; obtain ⟨_, _, _, _⟩ := zc2 BK499) | ((with_reducible refine gate_callee (f := 26) rfl ?_); refine zG (some 7) Try.func26 #[.agg #[.int .i64 a0_0, .slice A0_1 l0_1.length c0_1]] ?_; (with_reducible refine (impl_IsPuzzle.calls k a0_0 _ _ l0_1 true _ ?side1 ?side2 A3.out).mono ?_); (case side1 => repeat (first | exact (Kd.C_below HR0_1.out HB.out) | (with_reducible refine Kd.C_alloc ?_ _) | (with_reducible refine Kd.C_drewN ?_ _) | (with_reducible refine Kd.C_drew ?_))); (case side2 => exact HC0_1.out); rintro e w49 ⟨rfl, hb⟩; refine ⟨_, rfl, ?_⟩; replace BK499 := zb BK499 hb; replace BK500 := zb BK500 hb; replace BK501 := zb BK501 hb; replace HB := zh HB hb; clear hb; have hnb50 := NB500_501.out; have hnc50 := NB501_500.out; obtain ⟨_, _, _, _, _, _⟩ := zc3 BK500) | (go_at_call 68; (with_reducible refine (impl_isClue.calls k a1_0 a1_1 a1_2 false _ A5.out).mono ?_); rintro e w52 ⟨rfl, hb⟩; replace BK499 := zb BK499 hb; replace BK500 := zb BK500 hb; replace BK501 := zb BK501 hb; replace HB := zh HB hb; clear hb; obtain ⟨_, _, _, _⟩ := zc2 BK501))
   refine bodyPost_ret (results_ct rfl _ _ gb501 28 #[.int .i64 0, .slice none 0 0] (0, 0) _ rfl (zw BK501) Try.underlying28 rfl (by kernel_rfl)) rfl ?_
   exact ⟨_, zt, by first | exact Kd.R_nil _ _ _ _ _ | exact Kd.N_nil _ _ _ _ _ | exact Kd.V_nil _ _ _ _ _ | exact Kd.Q_nil _ _ _ _ _ | exact Kd.S_nil _ _ _ _ _, zy HB⟩
 ·replace c4 := Bool.eq_false_iff.mpr c4
  subst c4; rw [if_neg (show ¬ (false = true) by decide)] at H; simp only [Option.some.injEq, Prod.mk.injEq] at H; obtain ⟨rfl, rfl, rfl⟩ := H
  go_enter Try.func30, Try.ntmps30
  go_wp2_with (first | ((with_reducible refine gate_dst (N := 2) rfl ?_); (try (refine gate_guard (by rfl) ?_; dsimp only)); refine zE 2 #[.int .i64 a0_0, .slice A0_1 l0_1.length c0_1] 28 ?_; intro gb499 hg w54 hbox hb; have BK499 := Aside0.mk (hbox); have GW499 := zg HB hg; have GE499 := GW499; replace HB := zh HB hb; clear hb hbox hg) | ((with_reducible refine gate_dst (N := 3) rfl ?_); (try (refine gate_guard (by rfl) ?_; dsimp only)); refine zE 3 #[.int .i64 a1_0, .int .i64 a1_1, .int .i64 a1_2] 43 ?_; intro gb500 hg w55 hbox hb; have BK500 := Aside0.mk (hbox); have GW500 := zg HB hg; have GE500 := GW500; have NB499_500 := zl BK499 hg; have NB500_499 := zr BK499 hg; replace BK499 := zb BK499 hb; replace HB := zh HB hb; clear hb hbox hg) | ((with_reducible refine gate_dst (N := 4) rfl ?_); (try (refine gate_guard (by rfl) ?_; dsimp only)); refine zE 4 #[.int .i64 0, .slice none 0 0] 28 ?_; intro gb501 hg w56 hbox hb; have BK501 := Aside0.mk (hbox); have GW501 := zg HB hg; have GE501 := GW501; have NB499_501 := zl BK499 hg; have NB501_499 := zr BK499 hg; have NB500_501 := zl BK500 hg; have NB501_500 := zr BK500 hg; replace BK499 := zb BK499 hb; replace BK500 := zb BK500 hb; replace HB := zh HB hb; clear hb hbox hg; have hnb57 := NB499_500.out; have hnc57 := NB500_499.out; have hnb58 := NB499_501.out; have hnc58 := NB501_499.out; obtain ⟨_, _, _, _⟩ := zc2 BK499) | ((with_reducible refine gate_callee (f := 26) rfl ?_); refine zG (some 7) Try.func26 #[.agg #[.int .i64 a0_0, .slice A0_1 l0_1.length c0_1]] ?_; (with_reducible refine (impl_IsPuzzle.calls k a0_0 _ _ l0_1 false _ ?side1 ?side2 A3.out).mono ?_); (case side1 => repeat (first | exact (Kd.C_below HR0_1.out HB.out) | (with_reducible refine Kd.C_alloc ?_ _) | (with_reducible refine Kd.C_drewN ?_ _) | (with_reducible refine Kd.C_drew ?_))); (case side2 => exact HC0_1.out); rintro e w60 ⟨rfl, hb⟩; refine ⟨_, rfl, ?_⟩; replace BK499 := zb BK499 hb; replace BK500 := zb BK500 hb; replace BK501 := zb BK501 hb; replace HB := zh HB hb; clear hb; have hnb61 := NB501_500.out; have hnc61 := NB500_501.out; obtain ⟨_, _, _, _⟩ := zc2 BK501))
  refine bodyPost_ret (results_ct rfl _ _ gb501 28 #[.int .i64 0, .slice none 0 0] (0, 0) _ rfl (zw BK501) Try.underlying28 rfl (by kernel_rfl)) rfl ?_
  exact ⟨_, zt, by first | exact Kd.R_nil _ _ _ _ _ | exact Kd.N_nil _ _ _ _ _ | exact Kd.V_nil _ _ _ _ _ | exact Kd.Q_nil _ _ _ _ _ | exact Kd.S_nil _ _ _ _ _, zy HB⟩


/-! ### spec_AddClue: function 31 -/
def spec_AddClue.f (k : Nat) (a0_0 : Int) (l0_1 : List (S43)) (a1_0 : Int) (a1_1 : Int) (a1_2 : Int) : Option (Int × (List (S43)) × Bool) := (spec_pzGood.f k a0_0 l0_1).bind fun t516 => (if t516 = true then ((spec_pzClue.f k a1_0 a1_1 a1_2).bind fun t517 => (if t517 = true then (if (l0_1.length : Int) = 6 then (some (0, ([] : List (S43)), false)) else ((some (([] : List (S43)) : List (S43))).bind fun y518 => (if y518.length + l0_1.length < 5864062014805 then ((some (y518 ++ l0_1 : List (S43))).bind fun y521 => ((some (([(⟨a1_0, a1_1, a1_2⟩ : S43)] : List (S43)) : List (S43))).bind fun y524 => (if y521.length + y524.length < 5864062014805 then (some (a0_0, (y521 ++ y524), true)) else (none)))) else (none)))) else (some (0, ([] : List (S43)), false)))) else (some (0, ([] : List (S43)), false)))
def spec_AddClue.T3 : Bool × List (List Nat × List Nat) := (true, [([], []), ([0], [0]), ([], []), ([], []), ([3], [3]), ([2, 4], [2, 4]), ([], []), ([6], [6]), ([5, 7, 5], [5, 7]), ([1, 8], [1, 8]), ([9, 8, 0, 1, 2, 3, 4, 5, 6, 7, 8, 9], [9]), ([10, 0, 1, 2, 3, 4, 5, 6, 7, 8, 9, 10], [])])
def spec_AddClue.B3 : List Nat := [0, 1, 0, 0, 8, 28, 0, 64, 252, 511, 1023, 2047]
theorem spec_AddClue.tab3 : rtab .any (opsOf Try.f31 3) = spec_AddClue.T3 := by kernel_rfl
theorem spec_AddClue.bits3 : waitsOk spec_AddClue.T3.2 spec_AddClue.B3 = true := by kernel_rfl
set_option maxHeartbeats 8000000 in
set_option maxRecDepth 100000 in
theorem spec_AddClue.calls (k : Nat) (a0_0 : Int) (A0_1 : Option Addr) (c0_1 : Nat) (l0_1 : List (S43)) (a1_0 : Int) (a1_1 : Int) (a1_2 : Int) (r1 : Int) (r2 : List (S43)) (r3 : Bool) (w : World) (hr0_1 : Kd.C k43 w A0_1 l0_1.length l0_1) (hc0_1 : l0_1.length ≤ c0_1) (h : spec_AddClue.f k a0_0 l0_1 a1_0 a1_1 a1_2 = some (r1, r2, r3)) :
  Calls Try.prog 31 #[.agg #[.int .i64 a0_0, .slice A0_1 l0_1.length c0_1], .agg #[.int .i64 a1_0, .int .i64 a1_1, .int .i64 a1_2]] w fun e w' => ∃ v1_ : Value, e = .returned (.tuple #[.agg #[.int .i64 r1, v1_], .bool r3]) ∧ Kd.R k43 43 w' w.heap.size (fun _ => True) v1_ r2 ∧ Below w.heap.size w w' := by
 have hu28 := Try.underlying28; have hu43 := Try.underlying43; have HR0_1 := Aside0.mk hr0_1; have HC0_1 := Aside0.mk hc0_1; clear hr0_1 hc0_1
 have HB := Aside0.mk (Below.refl w.heap.size w)
 have H : ((spec_pzGood.f k a0_0 l0_1).bind fun t516 => (if t516 = true then ((spec_pzClue.f k a1_0 a1_1 a1_2).bind fun t517 => (if t517 = true then (if (l0_1.length : Int) = 6 then (some (0, ([] : List (S43)), false)) else ((some (([] : List (S43)) : List (S43))).bind fun y518 => (if y518.length + l0_1.length < 5864062014805 then ((some (y518 ++ l0_1 : List (S43))).bind fun y521 => ((some (([(⟨a1_0, a1_1, a1_2⟩ : S43)] : List (S43)) : List (S43))).bind fun y524 => (if y521.length + y524.length < 5864062014805 then (some (a0_0, (y521 ++ y524), true)) else (none)))) else (none)))) else (some (0, ([] : List (S43)), false)))) else (some (0, ([] : List (S43)), false)))) = some (r1, r2, r3) := h
 clear h; replace H := Option.bind_eq_some_iff.mp H; obtain ⟨t516, A30, H⟩ := H; (try dsimp only at H); have A3 := Aside0.mk A30; clear A30
 by_cases c4 : t516 = true
 ·subst c4
  rw [if_pos rfl] at H; replace H := Option.bind_eq_some_iff.mp H; obtain ⟨t517, A50, H⟩ := H; (try dsimp only at H); have A5 := Aside0.mk A50; clear A50
  by_cases c6 : t517 = true
  ·subst c6
   rw [if_pos rfl] at H
   by_cases c7 : (l0_1.length : Int) = 6
   ·rw [if_pos c7] at H
    have c7b0 : ((l0_1.length : Int) == 6) = true := beq_iff_eq.mpr c7
    have c7b1 : ((l0_1.length : Int) != 6) = false := bne_eq_false_iff_eq.mpr c7
    clear c7; simp only [Option.some.injEq, Prod.mk.injEq] at H; obtain ⟨rfl, rfl, rfl⟩ := H
    go_enter Try.func31, Try.ntmps31
    go_wp2_with (first | ((with_reducible refine gate_dst (N := 2) rfl ?_); (try (refine gate_guard (by rfl) ?_; dsimp only)); refine zE 2 #[.int .i64 a0_0, .slice A0_1 l0_1.length c0_1] 28 ?_; intro gb513 hg w8 hbox hb; have BK513 := Aside0.mk (hbox); have GW513 := zg HB hg; have GE513 := GW513; replace HB := zh HB hb; clear hb hbox hg) | ((with_reducible refine gate_dst (N := 3) rfl ?_); (try (refine gate_guard (by rfl) ?_; dsimp only)); refine zE 3 #[.int .i64 a1_0, .int .i64 a1_1, .int .i64 a1_2] 43 ?_; intro gb514 hg w9 hbox hb; have BK514 := Aside0.mk (hbox); have GW514 := zg HB hg; have GE514 := GW514; have NB513_514 := zl BK513 hg; have NB514_513 := zr BK513 hg; replace BK513 := zb BK513 hb; replace HB := zh HB hb; clear hb hbox hg) | ((with_reducible refine gate_dst (N := 4) rfl ?_); (try (refine gate_guard (by rfl) ?_; dsimp only)); refine zE 4 #[.int .i64 0, .slice none 0 0] 28 ?_; intro gb515 hg w10 hbox hb; have BK515 := Aside0.mk (hbox); have GW515 := zg HB hg; have GE515 := GW515; have NB513_515 := zl BK513 hg; have NB515_513 := zr BK513 hg; have NB514_515 := zl BK514 hg; have NB515_514 := zr BK514 hg; replace BK513 := zb BK513 hb; replace BK514 := zb BK514 hb; replace HB := zh HB hb; clear hb hbox hg; have hnb11 := NB513_514.out; have hnc11 := NB514_513.out; have hnb12 := NB513_515.out; have hnc12 := NB515_513.out; obtain ⟨_, _, _, _⟩ := zc2 BK513) | ((with_reducible refine gate_callee (f := 45) rfl ?_); refine zG (some 7) Try.func45 #[.agg #[.int .i64 a0_0, .slice A0_1 l0_1.length c0_1]] ?_; (with_reducible refine (spec_pzGood.calls k a0_0 _ _ l0_1 true _ ?side1 ?side2 A3.out).mono ?_); (case side1 => repeat (first | exact (Kd.C_below HR0_1.out HB.out) | (with_reducible refine Kd.C_alloc ?_ _) | (with_reducible refine Kd.C_drewN ?_ _) | (with_reducible refine Kd.C_drew ?_))); (case side2 => exact HC0_1.out); rintro e w14 ⟨rfl, hb⟩; refine ⟨_, rfl, ?_⟩; replace BK513 := zb BK513 hb; replace BK514 := zb BK514 hb; replace BK515 := zb BK515 hb; replace HB := zh HB hb; clear hb; have hnb15 := NB514_515.out; have hnc15 := NB515_514.out; obtain ⟨_, _, _, _, _, _⟩ := zc3 BK514) | (go_at_call 75; (with_reducible refine (spec_pzClue.calls k a1_0 a1_1 a1_2 true _ A5.out).mono ?_); rintro e w17 ⟨rfl, hb⟩; replace BK513 := zb BK513 hb; replace BK514 := zb BK514 hb; replace BK515 := zb BK515 hb; replace HB := zh HB hb; clear hb; obtain ⟨_, _, _, _⟩ := zc2 BK513; obtain ⟨_, _, _, _⟩ := zc2 BK515))
    refine bodyPost_ret (results_ct rfl _ _ gb515 28 #[.int .i64 0, .slice none 0 0] (0, 0) _ rfl (zw BK515) Try.underlying28 rfl (by kernel_rfl)) rfl ?_
    exact ⟨_, zt, by first | exact Kd.R_nil _ _ _ _ _ | exact Kd.N_nil _ _ _ _ _ | exact Kd.V_nil _ _ _ _ _ | exact Kd.Q_nil _ _ _ _ _ | exact Kd.S_nil _ _ _ _ _, zy HB⟩
   ·rw [if_neg c7] at H
    have c7b0 : ((l0_1.length : Int) == 6) = false := beq_eq_false_iff_ne.mpr c7
    have c7b1 : ((l0_1.length : Int) != 6) = true := bne_iff_ne.mpr c7
    obtain ⟨y518, hy518⟩ : ∃ y_ : List (S43), y_ = (([] : List (S43))) := ⟨_, rfl⟩
    replace H : (if y518.length + l0_1.length < 5864062014805 then ((some (y518 ++ l0_1 : List (S43))).bind fun y521 => ((some (([(⟨a1_0, a1_1, a1_2⟩ : S43)] : List (S43)) : List (S43))).bind fun y524 => (if y521.length + y524.length < 5864062014805 then (some (a0_0, (y521 ++ y524), true)) else (none)))) else (none)) = some (r1, r2, r3) := by first | (rw [hy518]; with_reducible exact H) | (have H2_ := (Option.bind_some _ _).symm.trans H; rw [hy518]; with_reducible exact H2_) | (have H2_ := (Option.bind_some _ _).symm.trans H; with_reducible exact H2_) | with_reducible exact H | (rw [hy518]; exact H) | exact H
    have Ny518 := Aside0.mk hy518; clear hy518
    by_cases c20 : y518.length + l0_1.length < 5864062014805
    ·rw [if_pos c20] at H
     have LMc20 := Aside0.mk c20; clear c20
     obtain ⟨y521, hy521⟩ : ∃ y_ : List (S43), y_ = (y518 ++ l0_1) := ⟨_, rfl⟩
     replace H : ((some (([(⟨a1_0, a1_1, a1_2⟩ : S43)] : List (S43)) : List (S43))).bind fun y524 => (if y521.length + y524.length < 5864062014805 then (some (a0_0, (y521 ++ y524), true)) else (none))) = some (r1, r2, r3) := by first | (rw [hy521]; with_reducible exact H) | (have H2_ := (Option.bind_some _ _).symm.trans H; rw [hy521]; with_reducible exact H2_) | (have H2_ := (Option.bind_some _ _).symm.trans H; with_reducible exact H2_) | with_reducible exact H | (rw [hy521]; exact H) | exact H
     have Ny521 := Aside0.mk hy521; clear hy521
     obtain ⟨y524, hy524⟩ : ∃ y_ : List (S43), y_ = (([(⟨a1_0, a1_1, a1_2⟩ : S43)] : List (S43))) := ⟨_, rfl⟩
     replace H : (if y521.length + y524.length < 5864062014805 then (some (a0_0, (y521 ++ y524), true)) else (none)) = some (r1, r2, r3) := by first | (rw [hy524]; with_reducible exact H) | (have H2_ := (Option.bind_some _ _).symm.trans H; rw [hy524]; with_reducible exact H2_) | (have H2_ := (Option.bind_some _ _).symm.trans H; with_reducible exact H2_) | with_reducible exact H | (rw [hy524]; exact H) | exact H
     have Ny524 := Aside0.mk hy524; clear hy524
     by_cases c21 : y521.length + y524.length < 5864062014805
     ·rw [if_pos c21] at H
      have LMc21 := Aside0.mk c21; clear c21
      obtain ⟨y527, hy527⟩ : ∃ y_ : List (S43), y_ = (y521 ++ y524) := ⟨_, rfl⟩
      replace H : (some (a0_0, y527, true)) = some (r1, r2, r3) := by first | (rw [hy527]; with_reducible exact H) | (have H2_ := (Option.bind_some _ _).symm.trans H; rw [hy527]; with_reducible exact H2_) | (have H2_ := (Option.bind_some _ _).symm.trans H; with_reducible exact H2_) | with_reducible exact H | (rw [hy527]; exact H) | exact H
      have Ny527 := Aside0.mk hy527; clear hy527; simp only [Option.some.injEq, Prod.mk.injEq] at H; obtain ⟨rfl, rfl, rfl⟩ := H
      go_enter Try.func31, Try.ntmps31
      try go_wp2_with (first | ((with_reducible refine gate_dst (N := 2) rfl ?_); (try (refine gate_guard (by rfl) ?_; dsimp only)); refine zE 2 #[.int .i64 a0_0, .slice A0_1 l0_1.length c0_1] 28 ?_; intro gb513 hg w22 hbox hb; have BK513 := Aside0.mk (hbox); have GW513 := zg HB hg; have GE513 := GW513; replace HB := zh HB hb; clear hb hbox hg) | ((with_reducible refine gate_dst (N := 3) rfl ?_); (try (refine gate_guard (by rfl) ?_; dsimp only)); refine zE 3 #[.int .i64 a1_0, .int .i64 a1_1, .int .i64 a1_2] 43 ?_; intro gb514 hg w23 hbox hb; have BK514 := Aside0.mk (hbox); have GW514 := zg HB hg; have GE514 := GW514; have NB513_514 := zl BK513 hg; have NB514_513 := zr BK513 hg; replace BK513 := zb BK513 hb; replace HB := zh HB hb; clear hb hbox hg) | ((with_reducible refine gate_dst (N := 4) rfl ?_); (try (refine gate_guard (by rfl) ?_; dsimp only)); refine zE 4 #[.int .i64 0, .slice none 0 0] 28 ?_; intro gb515 hg w24 hbox hb; have BK515 := Aside0.mk (hbox); have GW515 := zg HB hg; have GE515 := GW515; have NB513_515 := zl BK513 hg; have NB515_513 := zr BK513 hg; have NB514_515 := zl BK514 hg; have NB515_514 := zr BK514 hg; replace BK513 := zb BK513 hb; replace BK514 := zb BK514 hb; replace HB := zh HB hb; clear hb hbox hg; have hnb25 := NB513_514.out; have hnc25 := NB514_513.out; have hnb26 := NB513_515.out; have hnc26 := NB515_513.out; obtain ⟨_, _, _, _⟩ := zc2 BK513) | ((with_reducible refine gate_callee (f := 45) rfl ?_); refine zG (some 7) Try.func45 #[.agg #[.int .i64 a0_0, .slice A0_1 l0_1.length c0_1]] ?_; (with_reducible refine (spec_pzGood.calls k a0_0 _ _ l0_1 true _ ?side1 ?side2 A3.out).mono ?_); (case side1 => repeat (first | exact (Kd.C_below HR0_1.out HB.out) | (with_reducible refine Kd.C_alloc ?_ _) | (with_reducible refine Kd.C_drewN ?_ _) | (with_reducible refine Kd.C_drew ?_))); (case side2 => exact HC0_1.out); rintro e w28 ⟨rfl, hb⟩; refine ⟨_, rfl, ?_⟩; replace BK513 := zb BK513 hb; replace BK514 := zb BK514 hb; replace BK515 := zb BK515 hb; replace HB := zh HB hb; clear hb; have hnb29 := NB514_515.out; have hnc29 := NB515_514.out; obtain ⟨_, _, _, _, _, _⟩ := zc3 BK514) | (go_at_call 75; (with_reducible refine (spec_pzClue.calls k a1_0 a1_1 a1_2 true _ A5.out).mono ?_); rintro e w31 ⟨rfl, hb⟩; replace BK513 := zb BK513 hb; replace BK514 := zb BK514 hb; replace BK515 := zb BK515 hb; replace HB := zh HB hb; clear hb; obtain ⟨_, _, _, _⟩ := zc2 BK513))
      replace BK513 := Aside0.mk (blk_drew BK513.out); replace BK514 := Aside0.mk (blk_drew BK514.out); replace BK515 := Aside0.mk (blk_drew BK515.out); replace HB := Aside0.mk (below_drew1 HB.out)
      refine start_ (n := 12) (S := fun w' => w'.cell? ⟨gb513, 0, none⟩ = some (.int .i64 a0_0) ∧ w'.cell? ⟨gb513, 1, none⟩ = some (.slice A0_1 l0_1.length c0_1) ∧ w'.cell? ⟨gb514, 0, none⟩ = some (.int .i64 a1_0) ∧ w'.cell? ⟨gb514, 1, none⟩ = some (.int .i64 a1_1) ∧ w'.cell? ⟨gb514, 2, none⟩ = some (.int .i64 a1_2)) (ds := []) #[false, false, false, false, false, false, false, false, false, false, false, false] (by kernel_rfl) rfl rfl ⟨(blk_cell BK513.out 0).trans rfl, (blk_cell BK513.out 1).trans rfl, (blk_cell BK514.out 0).trans rfl, (blk_cell BK514.out 1).trans rfl, (blk_cell BK514.out 2).trans rfl⟩ (fun hHeld => ?_); refine with_tabW spec_AddClue.tab3 spec_AddClue.bits3 (fun HT_ HW_ => ?_)
      generalize w31.drew = w33 at BK513 BK514 BK515 HB hHeld ⊢
      refine zA 0 21 HT_ ?_
      refine zA 3 24 HT_ ?_
      refine zT 1 22 HT_ HW_ hHeld ?_
      refine zT 4 25 HT_ HW_ hHeld ?_
      refine zT 6 27 HT_ HW_ hHeld ?_
      refine join_ (σ := Value × Value × Value) 4 #[true, true, true, true, true, true, true, true, false, false, false, false] (fun s_ => [(23, s_.1), (26, s_.2.1), (28, s_.2.2)]) (fun s_ w' => (w'.cell? ⟨gb513, 0, none⟩ = some (.int .i64 a0_0) ∧ w'.cell? ⟨gb513, 1, none⟩ = some (.slice A0_1 l0_1.length c0_1) ∧ w'.cell? ⟨gb514, 0, none⟩ = some (.int .i64 a1_0) ∧ w'.cell? ⟨gb514, 1, none⟩ = some (.int .i64 a1_1) ∧ w'.cell? ⟨gb514, 2, none⟩ = some (.int .i64 a1_2)) ∧ (Kd.R k43 43 w' w.heap.size (fun k_ => some k_ ≠ (s_.2.2 : Value).ownBlock ∧ k_ ≠ gb514) s_.2.1 y521) ∧ (Kd.R k43 43 w' w.heap.size (fun k_ => some k_ ≠ (s_.2.1 : Value).ownBlock ∧ k_ ≠ gb514) s_.2.2 y524) ∧ (w'.heap[gb513]? = some (.cells #[.int .i64 a0_0, .slice A0_1 l0_1.length c0_1] 28 (0, 0))) ∧ (w'.heap[gb514]? = some (.cells #[.int .i64 a1_0, .int .i64 a1_1, .int .i64 a1_2] 43 (0, 0))) ∧ (w'.heap[gb515]? = some (.cells #[.int .i64 0, .slice none 0 0] 28 (0, 0))) ∧ (Below w.heap.size w w')) ?_ ?_
      rotate_left
      ·intro hCont
       refine two_ (i := 2) (j := 7) (Ni := some 23) (Nj := some 28) #[true, true, true, true, true, false, true, false, false, false, false, false] #[true, true, false, true, true, false, true, true, false, false, false, false] rfl rfl rfl rfl (two_of HT_.out (by kernel_rfl)) (by decide) (by decide) (fun K hK => ?_) (fun K hK => ?_)
       ·skip
        refine Kd.R_lit_step k43 _ 43 ?hg (N := 23) ?hd (xs := ([] : List (S43))) (inner := []) (ok := fun _ => True) (okp := fun _ => True) ?hr ?hp (fun _ hk => hk) trivial (Below.refl _ _) (Nat.le_refl _) (by simp) ?_; (case hd => rfl); (case hg => rfl); (case hr => first | (go_simp; done) | (go_simp; rfl)); (case hp => exact (Reps.none _ _))
        intro v519 w34 ho35 hb hg_ hnew_
        clear hg_ hnew_
        (first | rw [← Ny518.out] at ho35 | (simp only [Int.reduceToNat] at ho35; rw [← Ny518.out] at ho35))
        have HO520 := Aside0.mk (Kd.R_lower (Kd.R_newB ho35 (zq BK514)) (below_size (zy HB)))
        replace BK513 := zb BK513 hb; replace BK514 := zb BK514 hb; replace BK515 := zb BK515 hb; replace HB := zh HB hb; clear hb ho35
        refine hK.out _ _ ⟨(blk_cell BK513.out 0).trans rfl, (blk_cell BK513.out 1).trans rfl, (blk_cell BK514.out 0).trans rfl, (blk_cell BK514.out 1).trans rfl, (blk_cell BK514.out 2).trans rfl⟩ (fun hHeld => ?_)
        clear hK K
        refine zN 23 ?_
        refine two_ (i := 5) (j := 7) (Ni := some 26) (Nj := some 28) #[true, true, true, true, true, true, true, false, false, false, false, false] #[true, true, true, true, true, false, true, true, false, false, false, false] rfl rfl rfl rfl (two_of HT_.out (by kernel_rfl)) (by decide) (by decide) (fun K hK => ?_) (fun K hK => ?_)
        ·skip
         refine Kd.R_append_rows_step k43 (w0 := w) w.heap.size (by rfl) (.tmp 23) (.tmp 25) 26 43 (.agg #[(.int .i64 0), (.int .i64 0), (.int .i64 0)]) 24 rfl Try.underlying26 info43 rfl (by decide) (by omega) v519 y518 l0_1 _ _ _ (fun k_ => k_ ≠ gb514) (fun _ => False) rfl rfl ?aO ?aR (fun _ _ h => h) (fun _ h => h.elim) ?aF ?aB ?aS ?aL ?_
         (case aR => repeat (first | exact (Kd.C_below HR0_1.out HB.out) | (with_reducible refine Kd.C_alloc ?_ _) | (with_reducible refine Kd.C_drewN ?_ _) | (with_reducible refine Kd.C_drew ?_)))
         (case aB => exact (zy HB))
         (case aF => exact (fun k_ hk => Kd.freshB (zq BK514) k_ hk))
         (case aO => exact (by (with_reducible repeat (first | apply Kd.R_alloc | apply Kd.R_drewN | apply Kd.R_drew)); exact Kd.R_mono HO520.out (fun _ hk => hk.2)))
         (case aS => exact (below_size (zy HB)))
         (case aL => have := LMc20.out; omega)
         intro v522 w36 ho hb hg hat
         rw [← Ny521.out] at ho
         have n0_ := Aside0.mk (blk_grown (zq BK513) hg (Kd.R_ne HO520.out BK513.out (by decide)))
         have n1_ := Aside0.mk (blk_grown (zq BK514) hg (Kd.R_away HO520.out (fun _ hk => hk.2)))
         have n2_ := Aside0.mk (blk_grown (zq BK515) hg (Kd.R_ne HO520.out BK515.out (by decide)))
         have HO523 := Aside0.mk (ho)
         replace HB := Aside0.mk hb
         clear HO520; clear BK513; have BK513 := n0_; clear n0_; clear BK514; have BK514 := n1_; clear n1_; clear BK515; have BK515 := n2_; clear n2_; clear ho hb hg hat
         refine hK.out _ _ ⟨(blk_cell BK513.out 0).trans rfl, (blk_cell BK513.out 1).trans rfl, (blk_cell BK514.out 0).trans rfl, (blk_cell BK514.out 1).trans rfl, (blk_cell BK514.out 2).trans rfl⟩ (fun hHeld => ?_)
         clear hK K
         refine zN 26 ?_
         refine zO 7 (some 28) HT_ (fun K hK => ?_)
         refine Kd.R_lit_step k43 _ 43 ?hg (N := 28) ?hd (xs := ([(⟨a1_0, a1_1, a1_2⟩ : S43)] : List (S43))) (inner := [.int .i64 a1_0, .int .i64 a1_1, .int .i64 a1_2]) (ok := fun _ => True) (okp := fun _ => True) ?hr ?hp (fun _ hk => hk) trivial (Below.refl _ _) (Nat.le_refl _) (by simp) ?_; (case hd => rfl); (case hg => rfl); (case hr => first | (go_simp; done) | (go_simp; rfl)); (case hp => exact (Reps.c3 (show Kd.M k43 _ _ _ (⟨a1_0, a1_1, a1_2⟩ : S43) [.int .i64 a1_0, .int .i64 a1_1, .int .i64 a1_2] from (k43_mkM _ _ _ (⟨a1_0, a1_1, a1_2⟩ : S43) )) (Reps.none _ _)))
         intro v525 w37 ho38 hb hg_ hnew_
         clear hg_ hnew_
         (first | rw [← Ny524.out] at ho38 | (simp only [Int.reduceToNat] at ho38; rw [← Ny524.out] at ho38))
         have n0_ := Aside0.mk (Kd.R_elder' (zs HO523) (Kd.R_base ho38) hb)
         have HO526 := Aside0.mk (Kd.R_lower (Kd.R_newB (Kd.R_new' ho38 (Kd.R_lt (zs HO523))) (zq BK514)) (below_size (zy HB)))
         replace BK513 := zb BK513 hb; replace BK514 := zb BK514 hb; replace BK515 := zb BK515 hb; replace HB := zh HB hb; clear HO523; have HO523 := n0_; clear n0_; clear hb ho38
         refine hK.out _ _ ⟨(blk_cell BK513.out 0).trans rfl, (blk_cell BK513.out 1).trans rfl, (blk_cell BK514.out 0).trans rfl, (blk_cell BK514.out 1).trans rfl, (blk_cell BK514.out 2).trans rfl⟩ (fun hHeld => ?_)
         clear hK K
         refine zN 28 ?_
         exact norm_ zO2_3 (hCont (v519, v522, v525) _ ⟨hHeld, (by (with_reducible repeat (first | apply Kd.R_alloc | apply Kd.R_drewN | apply Kd.R_drew)); exact Kd.R_mono HO523.out (fun _ hk => ⟨hk.2, hk.1⟩)), zO2_0, (zq BK513), (zq BK514), (zq BK515), (zy HB)⟩)
        ·skip
         refine Kd.R_lit_step k43 _ 43 ?hg (N := 28) ?hd (xs := ([(⟨a1_0, a1_1, a1_2⟩ : S43)] : List (S43))) (inner := [.int .i64 a1_0, .int .i64 a1_1, .int .i64 a1_2]) (ok := fun _ => True) (okp := fun _ => True) ?hr ?hp (fun _ hk => hk) trivial (Below.refl _ _) (Nat.le_refl _) (by simp) ?_; (case hd => rfl); (case hg => rfl); (case hr => first | (go_simp; done) | (go_simp; rfl)); (case hp => exact (Reps.c3 (show Kd.M k43 _ _ _ (⟨a1_0, a1_1, a1_2⟩ : S43) [.int .i64 a1_0, .int .i64 a1_1, .int .i64 a1_2] from (k43_mkM _ _ _ (⟨a1_0, a1_1, a1_2⟩ : S43) )) (Reps.none _ _)))
         intro v525 w36 ho37 hb hg_ hnew_
         clear hg_ hnew_
         (first | rw [← Ny524.out] at ho37 | (simp only [Int.reduceToNat] at ho37; rw [← Ny524.out] at ho37))
         have n0_ := Aside0.mk (Kd.R_elder' (zs HO520) (Kd.R_base ho37) hb)
         have HO526 := Aside0.mk (Kd.R_lower (Kd.R_newB (Kd.R_new' ho37 (Kd.R_lt (zs HO520))) (zq BK514)) (below_size (zy HB)))
         replace BK513 := zb BK513 hb; replace BK514 := zb BK514 hb; replace BK515 := zb BK515 hb; replace HB := zh HB hb; clear HO520; have HO520 := n0_; clear n0_; clear hb ho37
         refine hK.out _ _ ⟨(blk_cell BK513.out 0).trans rfl, (blk_cell BK513.out 1).trans rfl, (blk_cell BK514.out 0).trans rfl, (blk_cell BK514.out 1).trans rfl, (blk_cell BK514.out 2).trans rfl⟩ (fun hHeld => ?_)
         clear hK K
         refine zN 28 ?_
         refine zO 5 (some 26) HT_ (fun K hK => ?_)
         refine Kd.R_append_rows_step k43 (w0 := w) w.heap.size (by rfl) (.tmp 23) (.tmp 25) 26 43 (.agg #[(.int .i64 0), (.int .i64 0), (.int .i64 0)]) 24 rfl Try.underlying26 info43 rfl (by decide) (by omega) v519 y518 l0_1 _ _ _ (fun k_ => some k_ ≠ (v525 : Value).ownBlock ∧ k_ ≠ gb514) (fun _ => False) rfl rfl ?aO ?aR (fun _ _ h => h) (fun _ h => h.elim) ?aF ?aB ?aS ?aL ?_
         (case aR => repeat (first | exact (Kd.C_below HR0_1.out HB.out) | (with_reducible refine Kd.C_alloc ?_ _) | (with_reducible refine Kd.C_drewN ?_ _) | (with_reducible refine Kd.C_drew ?_)))
         (case aB => exact (zy HB))
         (case aF => exact (fun k_ hk => ⟨Kd.fresh' (Kd.R_lt (zs HO526)) k_ hk, Kd.freshB (zq BK514) k_ hk⟩))
         (case aO => exact (by (with_reducible repeat (first | apply Kd.R_alloc | apply Kd.R_drewN | apply Kd.R_drew)); exact Kd.R_mono HO520.out (fun _ hk => ⟨hk.2, hk.1.2⟩)))
         (case aS => exact (below_size (zy HB)))
         (case aL => have := LMc20.out; omega)
         intro v522 w38 ho hb hg hat
         rw [← Ny521.out] at ho
         have n0_ := Aside0.mk (blk_grown (zq BK513) hg (Kd.R_ne HO520.out BK513.out (by decide)))
         have n1_ := Aside0.mk (blk_grown (zq BK514) hg (Kd.R_away HO520.out (fun _ hk => hk.1.2)))
         have n2_ := Aside0.mk (blk_grown (zq BK515) hg (Kd.R_ne HO520.out BK515.out (by decide)))
         have n3_ := Aside0.mk (Kd.R_after (ok := (fun k_ => k_ ≠ gb514)) (by (with_reducible repeat (first | apply Kd.R_alloc | apply Kd.R_drewN | apply Kd.R_drew)); exact Kd.R_mono HO526.out (fun _ hk => ⟨hk.2, hk.1.2⟩)) hg hat)
         have HO523 := Aside0.mk (ho)
         replace HB := Aside0.mk hb
         clear HO520; clear BK513; have BK513 := n0_; clear n0_; clear BK514; have BK514 := n1_; clear n1_; clear BK515; have BK515 := n2_; clear n2_; clear HO526; have HO526 := n3_; clear n3_; clear ho hb hg hat
         refine hK.out _ _ ⟨(blk_cell BK513.out 0).trans rfl, (blk_cell BK513.out 1).trans rfl, (blk_cell BK514.out 0).trans rfl, (blk_cell BK514.out 1).trans rfl, (blk_cell BK514.out 2).trans rfl⟩ (fun hHeld => ?_)
         clear hK K
         refine zN 26 ?_
         exact norm_ zO2_3 (hCont (v519, v522, v525) _ ⟨hHeld, (zs HO523), zO2_1, (zq BK513), (zq BK514), (zq BK515), (zy HB)⟩)
       ·skip
        refine Kd.R_lit_step k43 _ 43 ?hg (N := 28) ?hd (xs := ([(⟨a1_0, a1_1, a1_2⟩ : S43)] : List (S43))) (inner := [.int .i64 a1_0, .int .i64 a1_1, .int .i64 a1_2]) (ok := fun _ => True) (okp := fun _ => True) ?hr ?hp (fun _ hk => hk) trivial (Below.refl _ _) (Nat.le_refl _) (by simp) ?_; (case hd => rfl); (case hg => rfl); (case hr => first | (go_simp; done) | (go_simp; rfl)); (case hp => exact (Reps.c3 (show Kd.M k43 _ _ _ (⟨a1_0, a1_1, a1_2⟩ : S43) [.int .i64 a1_0, .int .i64 a1_1, .int .i64 a1_2] from (k43_mkM _ _ _ (⟨a1_0, a1_1, a1_2⟩ : S43) )) (Reps.none _ _)))
        intro v525 w34 ho35 hb hg_ hnew_
        clear hg_ hnew_
        (first | rw [← Ny524.out] at ho35 | (simp only [Int.reduceToNat] at ho35; rw [← Ny524.out] at ho35))
        have HO526 := Aside0.mk (Kd.R_lower (Kd.R_newB ho35 (zq BK514)) (below_size (zy HB)))
        replace BK513 := zb BK513 hb; replace BK514 := zb BK514 hb; replace BK515 := zb BK515 hb; replace HB := zh HB hb; clear hb ho35
        refine hK.out _ _ ⟨(blk_cell BK513.out 0).trans rfl, (blk_cell BK513.out 1).trans rfl, (blk_cell BK514.out 0).trans rfl, (blk_cell BK514.out 1).trans rfl, (blk_cell BK514.out 2).trans rfl⟩ (fun hHeld => ?_)
        clear hK K
        refine zN 28 ?_
        refine zO 2 (some 23) HT_ (fun K hK => ?_)
        refine Kd.R_lit_step k43 _ 43 ?hg (N := 23) ?hd (xs := ([] : List (S43))) (inner := []) (ok := fun _ => True) (okp := fun _ => True) ?hr ?hp (fun _ hk => hk) trivial (Below.refl _ _) (Nat.le_refl _) (by simp) ?_; (case hd => rfl); (case hg => rfl); (case hr => first | (go_simp; done) | (go_simp; rfl)); (case hp => exact (Reps.none _ _))
        intro v519 w36 ho37 hb hg_ hnew_
        clear hg_ hnew_
        (first | rw [← Ny518.out] at ho37 | (simp only [Int.reduceToNat] at ho37; rw [← Ny518.out] at ho37))
        have n0_ := Aside0.mk (Kd.R_elder' (zs HO526) (Kd.R_base ho37) hb)
        have HO520 := Aside0.mk (Kd.R_lower (Kd.R_newB (Kd.R_new' ho37 (Kd.R_lt (zs HO526))) (zq BK514)) (below_size (zy HB)))
        replace BK513 := zb BK513 hb; replace BK514 := zb BK514 hb; replace BK515 := zb BK515 hb; replace HB := zh HB hb; clear HO526; have HO526 := n0_; clear n0_; clear hb ho37
        refine hK.out _ _ ⟨(blk_cell BK513.out 0).trans rfl, (blk_cell BK513.out 1).trans rfl, (blk_cell BK514.out 0).trans rfl, (blk_cell BK514.out 1).trans rfl, (blk_cell BK514.out 2).trans rfl⟩ (fun hHeld => ?_)
        clear hK K
        refine zN 23 ?_
        refine zO 5 (some 26) HT_ (fun K hK => ?_)
        refine Kd.R_append_rows_step k43 (w0 := w) w.heap.size (by rfl) (.tmp 23) (.tmp 25) 26 43 (.agg #[(.int .i64 0), (.int .i64 0), (.int .i64 0)]) 24 rfl Try.underlying26 info43 rfl (by decide) (by omega) v519 y518 l0_1 _ _ _ (fun k_ => some k_ ≠ (v525 : Value).ownBlock ∧ k_ ≠ gb514) (fun _ => False) rfl rfl ?aO ?aR (fun _ _ h => h) (fun _ h => h.elim) ?aF ?aB ?aS ?aL ?_
        (case aR => repeat (first | exact (Kd.C_below HR0_1.out HB.out) | (with_reducible refine Kd.C_alloc ?_ _) | (with_reducible refine Kd.C_drewN ?_ _) | (with_reducible refine Kd.C_drew ?_)))
        (case aB => exact (zy HB))
        (case aF => exact (fun k_ hk => ⟨Kd.fresh' (Kd.R_lt (zs HO526)) k_ hk, Kd.freshB (zq BK514) k_ hk⟩))
        (case aO => exact (by (with_reducible repeat (first | apply Kd.R_alloc | apply Kd.R_drewN | apply Kd.R_drew)); exact Kd.R_mono HO520.out (fun _ hk => ⟨hk.1.2, hk.2⟩)))
        (case aS => exact (below_size (zy HB)))
        (case aL => have := LMc20.out; omega)
        intro v522 w38 ho hb hg hat
        rw [← Ny521.out] at ho
        have n0_ := Aside0.mk (blk_grown (zq BK513) hg (Kd.R_ne HO520.out BK513.out (by decide)))
        have n1_ := Aside0.mk (blk_grown (zq BK514) hg (Kd.R_away HO520.out (fun _ hk => hk.2)))
        have n2_ := Aside0.mk (blk_grown (zq BK515) hg (Kd.R_ne HO520.out BK515.out (by decide)))
        have n3_ := Aside0.mk (Kd.R_after (ok := (fun k_ => k_ ≠ gb514)) zO2_0 hg hat)
        have HO523 := Aside0.mk (ho)
        replace HB := Aside0.mk hb
        clear HO520; clear BK513; have BK513 := n0_; clear n0_; clear BK514; have BK514 := n1_; clear n1_; clear BK515; have BK515 := n2_; clear n2_; clear HO526; have HO526 := n3_; clear n3_; clear ho hb hg hat
        refine hK.out _ _ ⟨(blk_cell BK513.out 0).trans rfl, (blk_cell BK513.out 1).trans rfl, (blk_cell BK514.out 0).trans rfl, (blk_cell BK514.out 1).trans rfl, (blk_cell BK514.out 2).trans rfl⟩ (fun hHeld => ?_)
        clear hK K
        refine zN 26 ?_
        exact norm_ zO2_3 (hCont (v519, v522, v525) _ ⟨hHeld, (zs HO523), zO2_1, (zq BK513), (zq BK514), (zq BK515), (zy HB)⟩)
      rintro ⟨v519, v522, v525⟩ w39 ⟨hS_, h0_, h1_, h2_, h3_, h4_, h5_⟩
      have n0_ : Aside0 (Kd.R k43 43 w39 w.heap.size (fun k_ => some k_ ≠ (v525 : Value).ownBlock ∧ k_ ≠ gb514) v522 y521) := ⟨h0_⟩
      have n1_ : Aside0 (Kd.R k43 43 w39 w.heap.size (fun k_ => some k_ ≠ (v522 : Value).ownBlock ∧ k_ ≠ gb514) v525 y524) := ⟨h1_⟩
      have n2_ : Aside0 (w39.heap[gb513]? = some (.cells #[.int .i64 a0_0, .slice A0_1 l0_1.length c0_1] 28 (0, 0))) := ⟨h2_⟩
      have n3_ : Aside0 (w39.heap[gb514]? = some (.cells #[.int .i64 a1_0, .int .i64 a1_1, .int .i64 a1_2] 43 (0, 0))) := ⟨h3_⟩
      have n4_ : Aside0 (w39.heap[gb515]? = some (.cells #[.int .i64 0, .slice none 0 0] 28 (0, 0))) := ⟨h4_⟩
      have n5_ : Aside0 (Below w.heap.size w w39) := ⟨h5_⟩
      clear BK513; clear BK514; clear BK515; clear HB; clear h0_ h1_ h2_ h3_ h4_ h5_; have HO523 := n0_; have HO526 := n1_; have BK513 := n2_; have BK514 := n3_; have BK515 := n4_; have HB := n5_; clear n0_ n1_ n2_ n3_ n4_ n5_
      have hHeld : w39.cell? ⟨gb513, 0, none⟩ = some (.int .i64 a0_0) ∧ w39.cell? ⟨gb513, 1, none⟩ = some (.slice A0_1 l0_1.length c0_1) ∧ w39.cell? ⟨gb514, 0, none⟩ = some (.int .i64 a1_0) ∧ w39.cell? ⟨gb514, 1, none⟩ = some (.int .i64 a1_1) ∧ w39.cell? ⟨gb514, 2, none⟩ = some (.int .i64 a1_2) := hS_
      obtain ⟨Ao41, co41, eo41⟩ := Kd.R_slice HO526.out
      (first | subst eo41 | (injection eo41 with f1_ f2_ f3_; have f4_ := f1_.symm; have f5_ := f3_.symm; clear f1_ f2_ f3_; subst f4_; subst f5_))
      refine norm_ (a' := ?_) ?_ ?_
      rotate_left
      ·simp only [putAll, Act.put, List.setIfInBounds_toArray, List.set_cons_zero, List.set_cons_succ]
       rfl
      refine zO 8 (some 29) HT_ (fun K hK => ?_)
      refine Kd.R_append_rows_step k43 (w0 := w) w.heap.size (by rfl) (.tmp 26) (.tmp 28) 26 43 (.agg #[(.int .i64 0), (.int .i64 0), (.int .i64 0)]) 24 rfl Try.underlying26 info43 rfl (by decide) (by omega) v522 y521 y524 _ _ _ (fun k_ => some k_ ≠ (.slice Ao41 y524.length co41 : Value).ownBlock ∧ k_ ≠ gb514) (fun _ => False) rfl rfl ?aO ?aR (fun _ _ h => h) (fun _ h => h.elim) ?aF ?aB ?aS ?aL ?_
      (case aR => repeat (first | exact (Kd.R_reads' HO526.out).2.2 | (with_reducible refine Kd.C_alloc ?_ _) | (with_reducible refine Kd.C_drewN ?_ _) | (with_reducible refine Kd.C_drew ?_)))
      (case aB => exact (zy HB))
      (case aF => exact (fun k_ hk => ⟨Kd.fresh' (Kd.R_lt (zs HO526)) k_ hk, Kd.freshB (zq BK514) k_ hk⟩))
      (case aO => exact (zs HO523))
      (case aS => exact (below_size (zy HB)))
      (case aL => have := LMc21.out; omega)
      intro v528 w40 ho hb hg hat
      rw [← Ny527.out] at ho
      have n0_ := Aside0.mk (blk_grown (zq BK513) hg (Kd.R_ne HO523.out BK513.out (by decide)))
      have n1_ := Aside0.mk (blk_grown (zq BK514) hg (Kd.R_away HO523.out (fun _ hk => hk.2)))
      have n2_ := Aside0.mk (blk_grown (zq BK515) hg (Kd.R_ne HO523.out BK515.out (by decide)))
      have n3_ := Aside0.mk (Kd.R_after (ok := (fun k_ => k_ ≠ gb514)) zO2_1 hg hat)
      have HO529 := Aside0.mk (ho)
      replace HB := Aside0.mk hb
      clear HO523; clear BK513; have BK513 := n0_; clear n0_; clear BK514; have BK514 := n1_; clear n1_; clear BK515; have BK515 := n2_; clear n2_; clear HO526; have HO526 := n3_; clear n3_; clear ho hb hg hat
      obtain ⟨Ao42, co42, eo42⟩ := Kd.R_slice HO529.out
      (first | subst eo42 | (injection eo42 with f1_ f2_ f3_; have f4_ := f1_.symm; have f5_ := f3_.symm; clear f1_ f2_ f3_; subst f4_; subst f5_))
      refine hK.out _ _ ⟨(blk_cell BK513.out 0).trans rfl, (blk_cell BK513.out 1).trans rfl, (blk_cell BK514.out 0).trans rfl, (blk_cell BK514.out 1).trans rfl, (blk_cell BK514.out 2).trans rfl⟩ (fun hHeld => ?_)
      clear hK K
      refine zN 29 ?_
      refine zA 9 30 HT_ ?_
      refine zO 10 none HT_ (fun K hK => ?_)
      have hs43 : w40.cell? ⟨gb515, 0, none⟩ = some (.int .i64 0) := (blk_cell BK515.out 0).trans rfl
      have hfs43 := blk_frozen BK515.out 0
      have hns43_0 := NB513_515.out; have hns43_1 := NB514_515.out; have hms43_0 := NB515_513.out; have hms43_1 := NB515_514.out
      have hs44 : w40.cell? ⟨gb515, 1, none⟩ = some (.slice none 0 0) := (blk_cell BK515.out 1).trans rfl
      have hfs44 := blk_frozen BK515.out 1
      have hns44_0 := NB513_515.out; have hns44_1 := NB514_515.out; have hms44_0 := NB515_513.out; have hms44_1 := NB515_514.out
      refine skip_ (w1 := ?_) (by rfl) rfl ?_ ?_
      rotate_left
      ·go_simp
       rfl
      refine hK.out _ _ ⟨((cell_far (p := ⟨gb515, _, none⟩) NB513_515.out _).trans (((cell_far (p := ⟨gb515, _, none⟩) NB513_515.out _).trans (hHeld.1)))), ((cell_far (p := ⟨gb515, _, none⟩) NB513_515.out _).trans (((cell_far (p := ⟨gb515, _, none⟩) NB513_515.out _).trans (hHeld.2.1)))), ((cell_far (p := ⟨gb515, _, none⟩) NB514_515.out _).trans (((cell_far (p := ⟨gb515, _, none⟩) NB514_515.out _).trans (hHeld.2.2.1)))), ((cell_far (p := ⟨gb515, _, none⟩) NB514_515.out _).trans (((cell_far (p := ⟨gb515, _, none⟩) NB514_515.out _).trans (hHeld.2.2.2.1)))), ((cell_far (p := ⟨gb515, _, none⟩) NB514_515.out _).trans (((cell_far (p := ⟨gb515, _, none⟩) NB514_515.out _).trans (hHeld.2.2.2.2))))⟩ (fun hHeld => ?_)
      clear hK K
      refine zA 11 5 HT_ ?_
      refine done_ (done_of HT_.out (by kernel_rfl)) ?_
      try go_wp2
      refine bodyPost_ret (results_ct rfl _ _ gb515 28 #[.int .i64 a0_0, .slice Ao42 y527.length co42] (0, 0) _ rfl (zw BK515) Try.underlying28 rfl (by kernel_rfl)) rfl ?_
      exact ⟨_, zt, by (with_reducible repeat (first | apply Kd.R_alloc | apply Kd.R_drewN | apply Kd.R_drew)); exact Kd.R_mono (Kd.R_far (p := ⟨gb515, 1, none⟩) (Kd.R_far (p := ⟨gb515, 0, none⟩) (Kd.R_types HO529.out BK515.out (by decide)) (fun _ hk => hk.2) (.int .i64 a0_0)) (fun _ hk => hk.2) (.slice Ao42 y527.length co42)) (fun _ hk => trivial), zy HB⟩
     ·rw [if_neg c21] at H
      exact absurd H (by simp)
    ·rw [if_neg c20] at H
     exact absurd H (by simp)
  ·replace c6 := Bool.eq_false_iff.mpr c6
   subst c6; rw [if_neg (show ¬ (false = true) by decide)] at H; simp only [Option.some.injEq, Prod.mk.injEq] at H; obtain ⟨rfl, rfl, rfl⟩ := H
   go_enter Try.func31, Try.ntmps31
   go_wp2_with (first | ((with_reducible refine gate_dst (N := 2) rfl ?_); (try (refine gate_guard (by rfl) ?_; dsimp only)); refine zE 2 #[.int .i64 a0_0, .slice A0_1 l0_1.length c0_1] 28 ?_; intro gb513 hg w45 hbox hb; have BK513 := Aside0.mk (hbox); have GW513 := zg HB hg; have GE513 := GW513; replace HB := zh HB hb; clear hb hbox hg) | ((with_reducible refine gate_dst (N := 3) rfl ?_); (try (refine gate_guard (by rfl) ?_; dsimp only)); refine zE 3 #[.int .i64 a1_0, .int .i64 a1_1, .int .i64 a1_2] 43 ?_; intro gb514 hg w46 hbox hb; have BK514 := Aside0.mk (hbox); have GW514 := zg HB hg; have GE514 := GW514; have NB513_514 := zl BK513 hg; have NB514_513 := zr BK513 hg; replace BK513 := zb BK513 hb; replace HB := zh HB hb; clear hb hbox hg) | ((with_reducible refine gate_dst (N := 4) rfl ?_); (try (refine gate_guard (by rfl) ?_; dsimp only)); refine zE 4 #[.int .i64 0, .slice none 0 0] 28 ?_; intro gb515 hg w47 hbox hb; have BK515 := Aside0.mk (hbox); have GW515 := zg HB hg; have GE515 := GW515; have NB513_515 := zl BK513 hg; have NB515_513 := zr BK513 hg; have NB514_515 := zl BK514 hg; have NB515_514 := zr BK514 hg; replace BK513 := zb BK513 hb; replace BK514 := zb BK514 hb; replace HB := zh HB hb; clear hb hbox hg; have hnb48 := NB513_514.out; have hnc48 := NB514_513.out; have hnb49 := NB513_515.out; have hnc49 := NB515_513.out; obtain ⟨_, _, _, _⟩ := zc2 BK513) | ((with_reducible refine gate_callee (f := 45) rfl ?_); refine zG (some 7) Try.func45 #[.agg #[.int .i64 a0_0, .slice A0_1 l0_1.length c0_1]] ?_; (with_reducible refine (spec_pzGood.calls k a0_0 _ _ l0_1 true _ ?side1 ?side2 A3.out).mono ?_); (case side1 => repeat (first | exact (Kd.C_below HR0_1.out HB.out) | (with_reducible refine Kd.C_alloc ?_ _) | (with_reducible refine Kd.C_drewN ?_ _) | (with_reducible refine Kd.C_drew ?_))); (case side2 => exact HC0_1.out); rintro e w51 ⟨rfl, hb⟩; refine ⟨_, rfl, ?_⟩; replace BK513 := zb BK513 hb; replace BK514 := zb BK514 hb; replace BK515 := zb BK515 hb; replace HB := zh HB hb; clear hb; have hnb52 := NB514_515.out; have hnc52 := NB515_514.out; obtain ⟨_, _, _, _, _, _⟩ := zc3 BK514) | (go_at_call 75; (with_reducible refine (spec_pzClue.calls k a1_0 a1_1 a1_2 false _ A5.out).mono ?_); rintro e w54 ⟨rfl, hb⟩; replace BK513 := zb BK513 hb; replace BK514 := zb BK514 hb; replace BK515 := zb BK515 hb; replace HB := zh HB hb; clear hb; obtain ⟨_, _, _, _⟩ := zc2 BK515))
   refine bodyPost_ret (results_ct rfl _ _ gb515 28 #[.int .i64 0, .slice none 0 0] (0, 0) _ rfl (zw BK515) Try.underlying28 rfl (by kernel_rfl)) rfl ?_
   exact ⟨_, zt, by first | exact Kd.R_nil _ _ _ _ _ | exact Kd.N_nil _ _ _ _ _ | exact Kd.V_nil _ _ _ _ _ | exact Kd.Q_nil _ _ _ _ _ | exact Kd.S_nil _ _ _ _ _, zy HB⟩
 ·replace c4 := Bool.eq_false_iff.mpr c4
  subst c4; rw [if_neg (show ¬ (false = true) by decide)] at H; simp only [Option.some.injEq, Prod.mk.injEq] at H; obtain ⟨rfl, rfl, rfl⟩ := H
  go_enter Try.func31, Try.ntmps31
  go_wp2_with (first | ((with_reducible refine gate_dst (N := 2) rfl ?_); (try (refine gate_guard (by rfl) ?_; dsimp only)); refine zE 2 #[.int .i64 a0_0, .slice A0_1 l0_1.length c0_1] 28 ?_; intro gb513 hg w56 hbox hb; have BK513 := Aside0.mk (hbox); have GW513 := zg HB hg; have GE513 := GW513; replace HB := zh HB hb; clear hb hbox hg) | ((with_reducible refine gate_dst (N := 3) rfl ?_); (try (refine gate_guard (by rfl) ?_; dsimp only)); refine zE 3 #[.int .i64 a1_0, .int .i64 a1_1, .int .i64 a1_2] 43 ?_; intro gb514 hg w57 hbox hb; have BK514 := Aside0.mk (hbox); have GW514 := zg HB hg; have GE514 := GW514; have NB513_514 := zl BK513 hg; have NB514_513 := zr BK513 hg; replace BK513 := zb BK513 hb; replace HB := zh HB hb; clear hb hbox hg) | ((with_reducible refine gate_dst (N := 4) rfl ?_); (try (refine gate_guard (by rfl) ?_; dsimp only)); refine zE 4 #[.int .i64 0, .slice none 0 0] 28 ?_; intro gb515 hg w58 hbox hb; have BK515 := Aside0.mk (hbox); have GW515 := zg HB hg; have GE515 := GW515; have NB513_515 := zl BK513 hg; have NB515_513 := zr BK513 hg; have NB514_515 := zl BK514 hg; have NB515_514 := zr BK514 hg; replace BK513 := zb BK513 hb; replace BK514 := zb BK514 hb; replace HB := zh HB hb; clear hb hbox hg; have hnb59 := NB513_514.out; have hnc59 := NB514_513.out; have hnb60 := NB513_515.out; have hnc60 := NB515_513.out; obtain ⟨_, _, _, _⟩ := zc2 BK513) | ((with_reducible refine gate_callee (f := 45) rfl ?_); refine zG (some 7) Try.func45 #[.agg #[.int .i64 a0_0, .slice A0_1 l0_1.length c0_1]] ?_; (with_reducible refine (spec_pzGood.calls k a0_0 _ _ l0_1 false _ ?side1 ?side2 A3.out).mono ?_); (case side1 => repeat (first | exact (Kd.C_below HR0_1.out HB.out) | (with_reducible refine Kd.C_alloc ?_ _) | (with_reducible refine Kd.C_drewN ?_ _) | (with_reducible refine Kd.C_drew ?_))); (case side2 => exact HC0_1.out); rintro e w62 ⟨rfl, hb⟩; refine ⟨_, rfl, ?_⟩; replace BK513 := zb BK513 hb; replace BK514 := zb BK514 hb; replace BK515 := zb BK515 hb; replace HB := zh HB hb; clear hb; have hnb63 := NB515_514.out; have hnc63 := NB514_515.out; obtain ⟨_, _, _, _⟩ := zc2 BK515))
  refine bodyPost_ret (results_ct rfl _ _ gb515 28 #[.int .i64 0, .slice none 0 0] (0, 0) _ rfl (zw BK515) Try.underlying28 rfl (by kernel_rfl)) rfl ?_
  exact ⟨_, zt, by first | exact Kd.R_nil _ _ _ _ _ | exact Kd.N_nil _ _ _ _ _ | exact Kd.V_nil _ _ _ _ _ | exact Kd.Q_nil _ _ _ _ _ | exact Kd.S_nil _ _ _ _ _, zy HB⟩


/-! ### impl_DropClue: function 32 -/
def impl_DropClue.f (k : Nat) (a0_0 : Int) (l0_1 : List (S43)) (a1 : Int) : Option (Int × (List (S43)) × Bool) := (impl_IsPuzzle.f k a0_0 l0_1).bind fun t532 => (if t532 = true then ((impl_within.f a1 0 (wrap64 ((l0_1.length : Int) - 1))).bind fun t533 => (if t533 = true then ((impl_without.f k l0_1 a1).bind fun t534 => (some (a0_0, t534, true))) else (some (0, ([] : List (S43)), false)))) else (some (0, ([] : List (S43)), false)))
def impl_DropClue.T3 : Bool × List (List Nat × List Nat) := (true, [([], []), ([0], [0]), ([], []), ([2], [2]), ([], []), ([3, 4], [3, 4]), ([1, 5], [1, 5]), ([6, 5, 0, 1, 2, 3, 4, 5, 6], [6]), ([7, 0, 1, 2, 3, 4, 5, 6, 7], [])])
def impl_DropClue.B3 : List Nat := [0, 1, 0, 4, 0, 28, 63, 127, 255]
theorem impl_DropClue.tab3 : rtab .any (opsOf Try.f32 3) = impl_DropClue.T3 := by kernel_rfl
theorem impl_DropClue.bits3 : waitsOk impl_DropClue.T3.2 impl_DropClue.B3 = true := by kernel_rfl
set_option maxHeartbeats 8000000 in
set_option maxRecDepth 100000 in
theorem impl_DropClue.calls (k : Nat) (a0_0 : Int) (A0_1 : Option Addr) (c0_1 : Nat) (l0_1 : List (S43)) (a1 : Int) (r1 : Int) (r2 : List (S43)) (r3 : Bool) (w : World) (hr0_1 : Kd.C k43 w A0_1 l0_1.length l0_1) (hc0_1 : l0_1.length ≤ c0_1) (h : impl_DropClue.f k a0_0 l0_1 a1 = some (r1, r2, r3)) :
  Calls Try.prog 32 #[.agg #[.int .i64 a0_0, .slice A0_1 l0_1.length c0_1], .int .i64 a1] w fun e w' => ∃ v1_ : Value, e = .returned (.tuple #[.agg #[.int .i64 r1, v1_], .bool r3]) ∧ Kd.R k43 43 w' w.heap.size (fun _ => True) v1_ r2 ∧ Below w.heap.size w w' := by
 have hu28 := Try.underlying28; have HR0_1 := Aside0.mk hr0_1; have HC0_1 := Aside0.mk hc0_1; clear hr0_1 hc0_1
 have HB := Aside0.mk (Below.refl w.heap.size w)
 have H : ((impl_IsPuzzle.f k a0_0 l0_1).bind fun t532 => (if t532 = true then ((impl_within.f a1 0 (wrap64 ((l0_1.length : Int) - 1))).bind fun t533 => (if t533 = true then ((impl_without.f k l0_1 a1).bind fun t534 => (some (a0_0, t534, true))) else (some (0, ([] : List (S43)), false)))) else (some (0, ([] : List (S43)), false)))) = some (r1, r2, r3) := h
 clear h; replace H := Option.bind_eq_some_iff.mp H; obtain ⟨t532, A30, H⟩ := H; (try dsimp only at H); have A3 := Aside0.mk A30; clear A30
 by_cases c4 : t532 = true
 ·subst c4
  rw [if_pos rfl] at H; replace H := Option.bind_eq_some_iff.mp H; obtain ⟨t533, A50, H⟩ := H
  replace H : (if t533 = true then ((impl_without.f k l0_1 a1).bind fun t534 => (some (a0_0, t534, true))) else (some (0, ([] : List (S43)), false))) = some (r1, r2, r3) := H
  have A5 := Aside0.mk A50; clear A50
  by_cases c6 : t533 = true
  ·subst c6
   rw [if_pos rfl] at H; replace H := Option.bind_eq_some_iff.mp H; obtain ⟨t534, A70, H⟩ := H
   replace H : (some (a0_0, t534, true)) = some (r1, r2, r3) := H
   have A7 := Aside0.mk A70; clear A70; simp only [Option.some.injEq, Prod.mk.injEq] at H; obtain ⟨rfl, rfl, rfl⟩ := H
   go_enter Try.func32, Try.ntmps32
   try go_wp2_with (first | ((with_reducible refine gate_dst (N := 2) rfl ?_); (try (refine gate_guard (by rfl) ?_; dsimp only)); refine zE 2 #[.int .i64 a0_0, .slice A0_1 l0_1.length c0_1] 28 ?_; intro gb530 hg w8 hbox hb; have BK530 := Aside0.mk (hbox); have GW530 := zg HB hg; have GE530 := GW530; replace HB := zh HB hb; clear hb hbox hg) | ((with_reducible refine gate_dst (N := 4) rfl ?_); (try (refine gate_guard (by rfl) ?_; dsimp only)); refine zE 4 #[.int .i64 0, .slice none 0 0] 28 ?_; intro gb531 hg w9 hbox hb; have BK531 := Aside0.mk (hbox); have GW531 := zg HB hg; have GE531 := GW531; have NB530_531 := zl BK530 hg; have NB531_530 := zr BK530 hg; replace BK530 := zb BK530 hb; replace HB := zh HB hb; clear hb hbox hg; have hnb10 := NB530_531.out; have hnc10 := NB531_530.out; obtain ⟨_, _, _, _⟩ := zc2 BK530) | ((with_reducible refine gate_callee (f := 26) rfl ?_); refine zG (some 7) Try.func26 #[.agg #[.int .i64 a0_0, .slice A0_1 l0_1.length c0_1]] ?_; (with_reducible refine (impl_IsPuzzle.calls k a0_0 _ _ l0_1 true _ ?side1 ?side2 A3.out).mono ?_); (case side1 => repeat (first | exact (Kd.C_below HR0_1.out HB.out) | (with_reducible refine Kd.C_alloc ?_ _) | (with_reducible refine Kd.C_drewN ?_ _) | (with_reducible refine Kd.C_drew ?_))); (case side2 => exact HC0_1.out); rintro e w12 ⟨rfl, hb⟩; refine ⟨_, rfl, ?_⟩; replace BK530 := zb BK530 hb; replace BK531 := zb BK531 hb; replace HB := zh HB hb; clear hb; obtain ⟨_, _, _, _⟩ := zc2 BK530) | (go_at_call 59; (with_reducible refine (impl_within.calls a1 0 (wrap64 ((l0_1.length : Int) - 1)) true _ A5.out).mono ?_); rintro e w' ⟨rfl, ⟨nd, rfl⟩⟩; (try (rw [drewN_self w12]; generalize hq_ : World.drewN w12 _ = w12; have n0_ : Aside0 (w12.heap[gb530]? = some (.cells #[.int .i64 a0_0, .slice A0_1 l0_1.length c0_1] 28 (0, 0))) := ⟨by rw [← hq_]; exact (zq BK530)⟩; have n1_ : Aside0 (w12.heap[gb531]? = some (.cells #[.int .i64 0, .slice none 0 0] 28 (0, 0))) := ⟨by rw [← hq_]; exact (zq BK531)⟩; have n2_ : Aside0 (Below w.heap.size w w12) := ⟨by rw [← hq_]; exact (zy HB)⟩; clear BK530 BK531 HB hq_; have BK530 := n0_; have BK531 := n1_; have HB := n2_; clear n0_ n1_ n2_))))
   replace BK530 := Aside0.mk (blk_drew BK530.out); replace BK531 := Aside0.mk (blk_drew BK531.out); replace HB := Aside0.mk (below_drew1 HB.out)
   refine start_ (n := 9) (S := fun w' => w'.cell? ⟨gb530, 0, none⟩ = some (.int .i64 a0_0) ∧ w'.cell? ⟨gb530, 1, none⟩ = some (.slice A0_1 l0_1.length c0_1)) (ds := []) #[false, false, false, false, false, false, false, false, false] (by kernel_rfl) rfl rfl ⟨(blk_cell BK530.out 0).trans rfl, (blk_cell BK530.out 1).trans rfl⟩ (fun hHeld => ?_); refine with_tabW impl_DropClue.tab3 impl_DropClue.bits3 (fun HT_ HW_ => ?_)
   generalize w12.drew = w14 at BK530 BK531 HB hHeld ⊢
   refine zA 0 19 HT_ ?_
   refine zA 2 21 HT_ ?_
   refine zA 4 23 HT_ ?_
   refine zT 1 20 HT_ HW_ hHeld ?_
   refine zT 3 22 HT_ HW_ hHeld ?_
   refine zO 5 (some 24) HT_ (fun K hK => ?_)
   refine goes_ Try.func51 (by kernel_rfl) rfl #[.slice A0_1 l0_1.length c0_1, .int .i64 a1] (by rfl) rfl rfl zO2_2 ?_
   with_reducible refine (impl_without.calls k (fun k_ => k_ < w.heap.size) _ _ l0_1 a1 t534 _ ?side1 A7.out).mono ?_
   (case side1 => exact Kd.V_mk HC0_1.out (Kd.F_below (Kd.C_F k43_heap HR0_1.out) (zy HB)))
   rintro e w15 ⟨v535, rfl, ho0, hb⟩
   refine ⟨_, rfl, ?_⟩
   have HO536 := Aside0.mk (Kd.R_lower (Kd.R_mono (ok' := fun k_ => True) ho0 (fun _ hk_ => trivial)) (below_size (zy HB)))
   replace BK530 := zb BK530 hb; replace BK531 := zb BK531 hb; replace HB := zh HB hb
   (try clear hb)
   (try clear hb2)
   (try clear hk)
   (try clear hi)
   (try clear ho0)
   obtain ⟨Ao16, co16, eo16⟩ := Kd.R_slice HO536.out
   (first | subst eo16 | (injection eo16 with f1_ f2_ f3_; have f4_ := f1_.symm; have f5_ := f3_.symm; clear f1_ f2_ f3_; subst f4_; subst f5_))
   refine hK.out _ _ ⟨(blk_cell BK530.out 0).trans rfl, (blk_cell BK530.out 1).trans rfl⟩ (fun hHeld => ?_)
   clear hK K
   refine zN 24 ?_
   refine zA 6 25 HT_ ?_
   refine zO 7 none HT_ (fun K hK => ?_)
   have hs17 : w15.cell? ⟨gb531, 0, none⟩ = some (.int .i64 0) := (blk_cell BK531.out 0).trans rfl
   have hfs17 := blk_frozen BK531.out 0
   have hns17_0 := NB530_531.out; have hms17_0 := NB531_530.out
   have hs18 : w15.cell? ⟨gb531, 1, none⟩ = some (.slice none 0 0) := (blk_cell BK531.out 1).trans rfl
   have hfs18 := blk_frozen BK531.out 1
   have hns18_0 := NB530_531.out; have hms18_0 := NB531_530.out
   refine skip_ (w1 := ?_) (by rfl) rfl ?_ ?_
   rotate_left
   ·go_simp
    rfl
   refine hK.out _ _ ⟨((cell_far (p := ⟨gb531, _, none⟩) NB530_531.out _).trans (((cell_far (p := ⟨gb531, _, none⟩) NB530_531.out _).trans (hHeld.1)))), ((cell_far (p := ⟨gb531, _, none⟩) NB530_531.out _).trans (((cell_far (p := ⟨gb531, _, none⟩) NB530_531.out _).trans (hHeld.2))))⟩ (fun hHeld => ?_)
   clear hK K
   refine zA 8 5 HT_ ?_
   refine done_ (done_of HT_.out (by kernel_rfl)) ?_
   try go_wp2
   refine bodyPost_ret (results_ct rfl _ _ gb531 28 #[.int .i64 a0_0, .slice Ao16 t534.length co16] (0, 0) _ rfl (zw BK531) Try.underlying28 rfl (by kernel_rfl)) rfl ?_
   exact ⟨_, zt, by (with_reducible repeat (first | apply Kd.R_alloc | apply Kd.R_drewN | apply Kd.R_drew)); exact Kd.R_mono (Kd.R_far (p := ⟨gb531, 1, none⟩) (Kd.R_far (p := ⟨gb531, 0, none⟩) (Kd.R_types HO536.out BK531.out (by decide)) (fun _ hk => hk.2) (.int .i64 a0_0)) (fun _ hk => hk.2) (.slice Ao16 t534.length co16)) (fun _ hk => trivial), zy HB⟩
  ·replace c6 := Bool.eq_false_iff.mpr c6
   subst c6; rw [if_neg (show ¬ (false = true) by decide)] at H; simp only [Option.some.injEq, Prod.mk.injEq] at H; obtain ⟨rfl, rfl, rfl⟩ := H
   go_enter Try.func32, Try.ntmps32
   go_wp2_with (first | ((with_reducible refine gate_dst (N := 2) rfl ?_); (try (refine gate_guard (by rfl) ?_; dsimp only)); refine zE 2 #[.int .i64 a0_0, .slice A0_1 l0_1.length c0_1] 28 ?_; intro gb530 hg w19 hbox hb; have BK530 := Aside0.mk (hbox); have GW530 := zg HB hg; have GE530 := GW530; replace HB := zh HB hb; clear hb hbox hg) | ((with_reducible refine gate_dst (N := 4) rfl ?_); (try (refine gate_guard (by rfl) ?_; dsimp only)); refine zE 4 #[.int .i64 0, .slice none 0 0] 28 ?_; intro gb531 hg w20 hbox hb; have BK531 := Aside0.mk (hbox); have GW531 := zg HB hg; have GE531 := GW531; have NB530_531 := zl BK530 hg; have NB531_530 := zr BK530 hg; replace BK530 := zb BK530 hb; replace HB := zh HB hb; clear hb hbox hg; have hnb21 := NB530_531.out; have hnc21 := NB531_530.out; obtain ⟨_, _, _, _⟩ := zc2 BK530) | ((with_reducible refine gate_callee (f := 26) rfl ?_); refine zG (some 7) Try.func26 #[.agg #[.int .i64 a0_0, .slice A0_1 l0_1.length c0_1]] ?_; (with_reducible refine (impl_IsPuzzle.calls k a0_0 _ _ l0_1 true _ ?side1 ?side2 A3.out).mono ?_); (case side1 => repeat (first | exact (Kd.C_below HR0_1.out HB.out) | (with_reducible refine Kd.C_alloc ?_ _) | (with_reducible refine Kd.C_drewN ?_ _) | (with_reducible refine Kd.C_drew ?_))); (case side2 => exact HC0_1.out); rintro e w23 ⟨rfl, hb⟩; refine ⟨_, rfl, ?_⟩; replace BK530 := zb BK530 hb; replace BK531 := zb BK531 hb; replace HB := zh HB hb; clear hb; obtain ⟨_, _, _, _⟩ := zc2 BK530) | (go_at_call 59; (with_reducible refine (impl_within.calls a1 0 (wrap64 ((l0_1.length : Int) - 1)) false _ A5.out).mono ?_); rintro e w' ⟨rfl, ⟨nd, rfl⟩⟩; (try (rw [drewN_self w23]; generalize hq_ : World.drewN w23 _ = w23; have n0_ : Aside0 (w23.heap[gb530]? = some (.cells #[.int .i64 a0_0, .slice A0_1 l0_1.length c0_1] 28 (0, 0))) := ⟨by rw [← hq_]; exact (zq BK530)⟩; have n1_ : Aside0 (w23.heap[gb531]? = some (.cells #[.int .i64 0, .slice none 0 0] 28 (0, 0))) := ⟨by rw [← hq_]; exact (zq BK531)⟩; have n2_ : Aside0 (Below w.heap.size w w23) := ⟨by rw [← hq_]; exact (zy HB)⟩; clear BK530 BK531 HB hq_; have BK530 := n0_; have BK531 := n1_; have HB := n2_; clear n0_ n1_ n2_)); obtain ⟨_, _, _, _⟩ := zc2 BK531))
   refine bodyPost_ret (results_ct rfl _ _ gb531 28 #[.int .i64 0, .slice none 0 0] (0, 0) _ rfl (zw BK531) Try.underlying28 rfl (by kernel_rfl)) rfl ?_
   exact ⟨_, zt, by first | exact Kd.R_nil _ _ _ _ _ | exact Kd.N_nil _ _ _ _ _ | exact Kd.V_nil _ _ _ _ _ | exact Kd.Q_nil _ _ _ _ _ | exact Kd.S_nil _ _ _ _ _, zy HB⟩
 ·replace c4 := Bool.eq_false_iff.mpr c4
  subst c4; rw [if_neg (show ¬ (false = true) by decide)] at H; simp only [Option.some.injEq, Prod.mk.injEq] at H; obtain ⟨rfl, rfl, rfl⟩ := H
  go_enter Try.func32, Try.ntmps32
  go_wp2_with (first | ((with_reducible refine gate_dst (N := 2) rfl ?_); (try (refine gate_guard (by rfl) ?_; dsimp only)); refine zE 2 #[.int .i64 a0_0, .slice A0_1 l0_1.length c0_1] 28 ?_; intro gb530 hg w26 hbox hb; have BK530 := Aside0.mk (hbox); have GW530 := zg HB hg; have GE530 := GW530; replace HB := zh HB hb; clear hb hbox hg) | ((with_reducible refine gate_dst (N := 4) rfl ?_); (try (refine gate_guard (by rfl) ?_; dsimp only)); refine zE 4 #[.int .i64 0, .slice none 0 0] 28 ?_; intro gb531 hg w27 hbox hb; have BK531 := Aside0.mk (hbox); have GW531 := zg HB hg; have GE531 := GW531; have NB530_531 := zl BK530 hg; have NB531_530 := zr BK530 hg; replace BK530 := zb BK530 hb; replace HB := zh HB hb; clear hb hbox hg; have hnb28 := NB530_531.out; have hnc28 := NB531_530.out; obtain ⟨_, _, _, _⟩ := zc2 BK530) | ((with_reducible refine gate_callee (f := 26) rfl ?_); refine zG (some 7) Try.func26 #[.agg #[.int .i64 a0_0, .slice A0_1 l0_1.length c0_1]] ?_; (with_reducible refine (impl_IsPuzzle.calls k a0_0 _ _ l0_1 false _ ?side1 ?side2 A3.out).mono ?_); (case side1 => repeat (first | exact (Kd.C_below HR0_1.out HB.out) | (with_reducible refine Kd.C_alloc ?_ _) | (with_reducible refine Kd.C_drewN ?_ _) | (with_reducible refine Kd.C_drew ?_))); (case side2 => exact HC0_1.out); rintro e w30 ⟨rfl, hb⟩; refine ⟨_, rfl, ?_⟩; replace BK530 := zb BK530 hb; replace BK531 := zb BK531 hb; replace HB := zh HB hb; clear hb; obtain ⟨_, _, _, _⟩ := zc2 BK531))
  refine bodyPost_ret (results_ct rfl _ _ gb531 28 #[.int .i64 0, .slice none 0 0] (0, 0) _ rfl (zw BK531) Try.underlying28 rfl (by kernel_rfl)) rfl ?_
  exact ⟨_, zt, by first | exact Kd.R_nil _ _ _ _ _ | exact Kd.N_nil _ _ _ _ _ | exact Kd.V_nil _ _ _ _ _ | exact Kd.Q_nil _ _ _ _ _ | exact Kd.S_nil _ _ _ _ _, zy HB⟩


/-! ### spec_DropClue: function 33 -/
def spec_DropClue.f (k : Nat) (a0_0 : Int) (l0_1 : List (S43)) (a1 : Int) : Option (Int × (List (S43)) × Bool) := (spec_pzGood.f k a0_0 l0_1).bind fun t539 => (if t539 = true then ((spec_l1In.f a1 0 (wrap64 ((l0_1.length : Int) - 1))).bind fun t540 => (if t540 = true then ((spec_pzWithout.f l0_1 a1).bind fun t541 => (some (a0_0, t541, true))) else (some (0, ([] : List (S43)), false)))) else (some (0, ([] : List (S43)), false)))
def spec_DropClue.T3 : Bool × List (List Nat × List Nat) := (true, [([], []), ([0], [0]), ([], []), ([2], [2]), ([], []), ([3, 4], [3, 4]), ([1, 5], [1, 5]), ([6, 5, 0, 1, 2, 3, 4, 5, 6], [6]), ([7, 0, 1, 2, 3, 4, 5, 6, 7], [])])
def spec_DropClue.B3 : List Nat := [0, 1, 0, 4, 0, 28, 63, 127, 255]
theorem spec_DropClue.tab3 : rtab .any (opsOf Try.f33 3) = spec_DropClue.T3 := by kernel_rfl
theorem spec_DropClue.bits3 : waitsOk spec_DropClue.T3.2 spec_DropClue.B3 = true := by kernel_rfl
set_option maxHeartbeats 8000000 in
set_option maxRecDepth 100000 in
theorem spec_DropClue.calls (k : Nat) (a0_0 : Int) (A0_1 : Option Addr) (c0_1 : Nat) (l0_1 : List (S43)) (a1 : Int) (r1 : Int) (r2 : List (S43)) (r3 : Bool) (w : World) (hr0_1 : Kd.C k43 w A0_1 l0_1.length l0_1) (hc0_1 : l0_1.length ≤ c0_1) (h : spec_DropClue.f k a0_0 l0_1 a1 = some (r1, r2, r3)) :
  Calls Try.prog 33 #[.agg #[.int .i64 a0_0, .slice A0_1 l0_1.length c0_1], .int .i64 a1] w fun e w' => ∃ v1_ : Value, e = .returned (.tuple #[.agg #[.int .i64 r1, v1_], .bool r3]) ∧ Kd.R k43 43 w' w.heap.size (fun _ => True) v1_ r2 ∧ Below w.heap.size w w' := by
 have hu28 := Try.underlying28; have HR0_1 := Aside0.mk hr0_1; have HC0_1 := Aside0.mk hc0_1; clear hr0_1 hc0_1
 have HB := Aside0.mk (Below.refl w.heap.size w)
 have H : ((spec_pzGood.f k a0_0 l0_1).bind fun t539 => (if t539 = true then ((spec_l1In.f a1 0 (wrap64 ((l0_1.length : Int) - 1))).bind fun t540 => (if t540 = true then ((spec_pzWithout.f l0_1 a1).bind fun t541 => (some (a0_0, t541, true))) else (some (0, ([] : List (S43)), false)))) else (some (0, ([] : List (S43)), false)))) = some (r1, r2, r3) := h
 clear h; replace H := Option.bind_eq_some_iff.mp H; obtain ⟨t539, A30, H⟩ := H; (try dsimp only at H); have A3 := Aside0.mk A30; clear A30
 by_cases c4 : t539 = true
 ·subst c4
  rw [if_pos rfl] at H; replace H := Option.bind_eq_some_iff.mp H; obtain ⟨t540, A50, H⟩ := H
  replace H : (if t540 = true then ((spec_pzWithout.f l0_1 a1).bind fun t541 => (some (a0_0, t541, true))) else (some (0, ([] : List (S43)), false))) = some (r1, r2, r3) := H
  have A5 := Aside0.mk A50; clear A50
  by_cases c6 : t540 = true
  ·subst c6
   rw [if_pos rfl] at H; replace H := Option.bind_eq_some_iff.mp H; obtain ⟨t541, A70, H⟩ := H
   replace H : (some (a0_0, t541, true)) = some (r1, r2, r3) := H
   have A7 := Aside0.mk A70; clear A70; simp only [Option.some.injEq, Prod.mk.injEq] at H; obtain ⟨rfl, rfl, rfl⟩ := H
   go_enter Try.func33, Try.ntmps33
   try go_wp2_with (first | ((with_reducible refine gate_dst (N := 2) rfl ?_); (try (refine gate_guard (by rfl) ?_; dsimp only)); refine zE 2 #[.int .i64 a0_0, .slice A0_1 l0_1.length c0_1] 28 ?_; intro gb537 hg w8 hbox hb; have BK537 := Aside0.mk (hbox); have GW537 := zg HB hg; have GE537 := GW537; replace HB := zh HB hb; clear hb hbox hg) | ((with_reducible refine gate_dst (N := 4) rfl ?_); (try (refine gate_guard (by rfl) ?_; dsimp only)); refine zE 4 #[.int .i64 0, .slice none 0 0] 28 ?_; intro gb538 hg w9 hbox hb; have BK538 := Aside0.mk (hbox); have GW538 := zg HB hg; have GE538 := GW538; have NB537_538 := zl BK537 hg; have NB538_537 := zr BK537 hg; replace BK537 := zb BK537 hb; replace HB := zh HB hb; clear hb hbox hg; have hnb10 := NB537_538.out; have hnc10 := NB538_537.out; obtain ⟨_, _, _, _⟩ := zc2 BK537) | ((with_reducible refine gate_callee (f := 45) rfl ?_); refine zG (some 7) Try.func45 #[.agg #[.int .i64 a0_0, .slice A0_1 l0_1.length c0_1]] ?_; (with_reducible refine (spec_pzGood.calls k a0_0 _ _ l0_1 true _ ?side1 ?side2 A3.out).mono ?_); (case side1 => repeat (first | exact (Kd.C_below HR0_1.out HB.out) | (with_reducible refine Kd.C_alloc ?_ _) | (with_reducible refine Kd.C_drewN ?_ _) | (with_reducible refine Kd.C_drew ?_))); (case side2 => exact HC0_1.out); rintro e w12 ⟨rfl, hb⟩; refine ⟨_, rfl, ?_⟩; replace BK537 := zb BK537 hb; replace BK538 := zb BK538 hb; replace HB := zh HB hb; clear hb; obtain ⟨_, _, _, _⟩ := zc2 BK537) | (go_at_call 63; (with_reducible refine (spec_l1In.calls a1 0 (wrap64 ((l0_1.length : Int) - 1)) true _ A5.out).mono ?_); rintro e w' ⟨rfl, ⟨nd, rfl⟩⟩; (try (rw [drewN_self w12]; generalize hq_ : World.drewN w12 _ = w12; have n0_ : Aside0 (w12.heap[gb537]? = some (.cells #[.int .i64 a0_0, .slice A0_1 l0_1.length c0_1] 28 (0, 0))) := ⟨by rw [← hq_]; exact (zq BK537)⟩; have n1_ : Aside0 (w12.heap[gb538]? = some (.cells #[.int .i64 0, .slice none 0 0] 28 (0, 0))) := ⟨by rw [← hq_]; exact (zq BK538)⟩; have n2_ : Aside0 (Below w.heap.size w w12) := ⟨by rw [← hq_]; exact (zy HB)⟩; clear BK537 BK538 HB hq_; have BK537 := n0_; have BK538 := n1_; have HB := n2_; clear n0_ n1_ n2_))))
   replace BK537 := Aside0.mk (blk_drew BK537.out); replace BK538 := Aside0.mk (blk_drew BK538.out); replace HB := Aside0.mk (below_drew1 HB.out)
   refine start_ (n := 9) (S := fun w' => w'.cell? ⟨gb537, 0, none⟩ = some (.int .i64 a0_0) ∧ w'.cell? ⟨gb537, 1, none⟩ = some (.slice A0_1 l0_1.length c0_1)) (ds := []) #[false, false, false, false, false, false, false, false, false] (by kernel_rfl) rfl rfl ⟨(blk_cell BK537.out 0).trans rfl, (blk_cell BK537.out 1).trans rfl⟩ (fun hHeld => ?_); refine with_tabW spec_DropClue.tab3 spec_DropClue.bits3 (fun HT_ HW_ => ?_)
   generalize w12.drew = w14 at BK537 BK538 HB hHeld ⊢
   refine zA 0 19 HT_ ?_
   refine zA 2 21 HT_ ?_
   refine zA 4 23 HT_ ?_
   refine zT 1 20 HT_ HW_ hHeld ?_
   refine zT 3 22 HT_ HW_ hHeld ?_
   refine zO 5 (some 24) HT_ (fun K hK => ?_)
   refine goes_ Try.func47 (by kernel_rfl) rfl #[.slice A0_1 l0_1.length c0_1, .int .i64 a1] (by rfl) rfl rfl zO2_2 ?_
   with_reducible refine (spec_pzWithout.calls _ _ l0_1 a1 t541 _ ?side1 ?side2 A7.out).mono ?_
   (case side1 => repeat (first | exact (Kd.C_below HR0_1.out HB.out) | (with_reducible refine Kd.C_alloc ?_ _) | (with_reducible refine Kd.C_drewN ?_ _) | (with_reducible refine Kd.C_drew ?_)))
   (case side2 => exact HC0_1.out)
   rintro e w15 ⟨v542, rfl, ho0, hb⟩
   refine ⟨_, rfl, ?_⟩
   have HO543 := Aside0.mk (Kd.R_lower ho0 (below_size (zy HB)))
   replace BK537 := zb BK537 hb; replace BK538 := zb BK538 hb; replace HB := zh HB hb
   (try clear hb)
   (try clear hb2)
   (try clear hk)
   (try clear hi)
   (try clear ho0)
   obtain ⟨Ao16, co16, eo16⟩ := Kd.R_slice HO543.out
   (first | subst eo16 | (injection eo16 with f1_ f2_ f3_; have f4_ := f1_.symm; have f5_ := f3_.symm; clear f1_ f2_ f3_; subst f4_; subst f5_))
   refine hK.out _ _ ⟨(blk_cell BK537.out 0).trans rfl, (blk_cell BK537.out 1).trans rfl⟩ (fun hHeld => ?_)
   clear hK K
   refine zN 24 ?_
   refine zA 6 25 HT_ ?_
   refine zO 7 none HT_ (fun K hK => ?_)
   have hs17 : w15.cell? ⟨gb538, 0, none⟩ = some (.int .i64 0) := (blk_cell BK538.out 0).trans rfl
   have hfs17 := blk_frozen BK538.out 0
   have hns17_0 := NB537_538.out; have hms17_0 := NB538_537.out
   have hs18 : w15.cell? ⟨gb538, 1, none⟩ = some (.slice none 0 0) := (blk_cell BK538.out 1).trans rfl
   have hfs18 := blk_frozen BK538.out 1
   have hns18_0 := NB537_538.out; have hms18_0 := NB538_537.out
   refine skip_ (w1 := ?_) (by rfl) rfl ?_ ?_
   rotate_left
   ·go_simp
    rfl
   refine hK.out _ _ ⟨((cell_far (p := ⟨gb538, _, none⟩) NB537_538.out _).trans (((cell_far (p := ⟨gb538, _, none⟩) NB537_538.out _).trans (hHeld.1)))), ((cell_far (p := ⟨gb538, _, none⟩) NB537_538.out _).trans (((cell_far (p := ⟨gb538, _, none⟩) NB537_538.out _).trans (hHeld.2))))⟩ (fun hHeld => ?_)
   clear hK K
   refine zA 8 5 HT_ ?_
   refine done_ (done_of HT_.out (by kernel_rfl)) ?_
   try go_wp2
   refine bodyPost_ret (results_ct rfl _ _ gb538 28 #[.int .i64 a0_0, .slice Ao16 t541.length co16] (0, 0) _ rfl (zw BK538) Try.underlying28 rfl (by kernel_rfl)) rfl ?_
   exact ⟨_, zt, by (with_reducible repeat (first | apply Kd.R_alloc | apply Kd.R_drewN | apply Kd.R_drew)); exact Kd.R_mono (Kd.R_far (p := ⟨gb538, 1, none⟩) (Kd.R_far (p := ⟨gb538, 0, none⟩) (Kd.R_types HO543.out BK538.out (by decide)) (fun _ hk => hk.2) (.int .i64 a0_0)) (fun _ hk => hk.2) (.slice Ao16 t541.length co16)) (fun _ hk => trivial), zy HB⟩
  ·replace c6 := Bool.eq_false_iff.mpr c6
   subst c6; rw [if_neg (show ¬ (false = true) by decide)] at H; simp only [Option.some.injEq, Prod.mk.injEq] at H; obtain ⟨rfl, rfl, rfl⟩ := H
   go_enter Try.func33, Try.ntmps33
   go_wp2_with (first | ((with_reducible refine gate_dst (N := 2) rfl ?_); (try (refine gate_guard (by rfl) ?_; dsimp only)); refine zE 2 #[.int .i64 a0_0, .slice A0_1 l0_1.length c0_1] 28 ?_; intro gb537 hg w19 hbox hb; have BK537 := Aside0.mk (hbox); have GW537 := zg HB hg; have GE537 := GW537; replace HB := zh HB hb; clear hb hbox hg) | ((with_reducible refine gate_dst (N := 4) rfl ?_); (try (refine gate_guard (by rfl) ?_; dsimp only)); refine zE 4 #[.int .i64 0, .slice none 0 0] 28 ?_; intro gb538 hg w20 hbox hb; have BK538 := Aside0.mk (hbox); have GW538 := zg HB hg; have GE538 := GW538; have NB537_538 := zl BK537 hg; have NB538_537 := zr BK537 hg; replace BK537 := zb BK537 hb; replace HB := zh HB hb; clear hb hbox hg; have hnb21 := NB537_538.out; have hnc21 := NB538_537.out; obtain ⟨_, _, _, _⟩ := zc2 BK537) | ((with_reducible refine gate_callee (f := 45) rfl ?_); refine zG (some 7) Try.func45 #[.agg #[.int .i64 a0_0, .slice A0_1 l0_1.length c0_1]] ?_; (with_reducible refine (spec_pzGood.calls k a0_0 _ _ l0_1 true _ ?side1 ?side2 A3.out).mono ?_); (case side1 => repeat (first | exact (Kd.C_below HR0_1.out HB.out) | (with_reducible refine Kd.C_alloc ?_ _) | (with_reducible refine Kd.C_drewN ?_ _) | (with_reducible refine Kd.C_drew ?_))); (case side2 => exact HC0_1.out); rintro e w23 ⟨rfl, hb⟩; refine ⟨_, rfl, ?_⟩; replace BK537 := zb BK537 hb; replace BK538 := zb BK538 hb; replace HB := zh HB hb; clear hb; obtain ⟨_, _, _, _⟩ := zc2 BK537) | (go_at_call 63; (with_reducible refine (spec_l1In.calls a1 0 (wrap64 ((l0_1.length : Int) - 1)) false _ A5.out).mono ?_); rintro e w' ⟨rfl, ⟨nd, rfl⟩⟩; (try (rw [drewN_self w23]; generalize hq_ : World.drewN w23 _ = w23; have n0_ : Aside0 (w23.heap[gb537]? = some (.cells #[.int .i64 a0_0, .slice A0_1 l0_1.length c0_1] 28 (0, 0))) := ⟨by rw [← hq_]; exact (zq BK537)⟩; have n1_ : Aside0 (w23.heap[gb538]? = some (.cells #[.int .i64 0, .slice none 0 0] 28 (0, 0))) := ⟨by rw [← hq_]; exact (zq BK538)⟩; have n2_ : Aside0 (Below w.heap.size w w23) := ⟨by rw [← hq_]; exact (zy HB)⟩; clear BK537 BK538 HB hq_; have BK537 := n0_; have BK538 := n1_; have HB := n2_; clear n0_ n1_ n2_)); obtain ⟨_, _, _, _⟩ := zc2 BK538))
   refine bodyPost_ret (results_ct rfl _ _ gb538 28 #[.int .i64 0, .slice none 0 0] (0, 0) _ rfl (zw BK538) Try.underlying28 rfl (by kernel_rfl)) rfl ?_
   exact ⟨_, zt, by first | exact Kd.R_nil _ _ _ _ _ | exact Kd.N_nil _ _ _ _ _ | exact Kd.V_nil _ _ _ _ _ | exact Kd.Q_nil _ _ _ _ _ | exact Kd.S_nil _ _ _ _ _, zy HB⟩
 ·replace c4 := Bool.eq_false_iff.mpr c4
  subst c4; rw [if_neg (show ¬ (false = true) by decide)] at H; simp only [Option.some.injEq, Prod.mk.injEq] at H; obtain ⟨rfl, rfl, rfl⟩ := H
  go_enter Try.func33, Try.ntmps33
  go_wp2_with (first | ((with_reducible refine gate_dst (N := 2) rfl ?_); (try (refine gate_guard (by rfl) ?_; dsimp only)); refine zE 2 #[.int .i64 a0_0, .slice A0_1 l0_1.length c0_1] 28 ?_; intro gb537 hg w26 hbox hb; have BK537 := Aside0.mk (hbox); have GW537 := zg HB hg; have GE537 := GW537; replace HB := zh HB hb; clear hb hbox hg) | ((with_reducible refine gate_dst (N := 4) rfl ?_); (try (refine gate_guard (by rfl) ?_; dsimp only)); refine zE 4 #[.int .i64 0, .slice none 0 0] 28 ?_; intro gb538 hg w27 hbox hb; have BK538 := Aside0.mk (hbox); have GW538 := zg HB hg; have GE538 := GW538; have NB537_538 := zl BK537 hg; have NB538_537 := zr BK537 hg; replace BK537 := zb BK537 hb; replace HB := zh HB hb; clear hb hbox hg; have hnb28 := NB537_538.out; have hnc28 := NB538_537.out; obtain ⟨_, _, _, _⟩ := zc2 BK537) | ((with_reducible refine gate_callee (f := 45) rfl ?_); refine zG (some 7) Try.func45 #[.agg #[.int .i64 a0_0, .slice A0_1 l0_1.length c0_1]] ?_; (with_reducible refine (spec_pzGood.calls k a0_0 _ _ l0_1 false _ ?side1 ?side2 A3.out).mono ?_); (case side1 => repeat (first | exact (Kd.C_below HR0_1.out HB.out) | (with_reducible refine Kd.C_alloc ?_ _) | (with_reducible refine Kd.C_drewN ?_ _) | (with_reducible refine Kd.C_drew ?_))); (case side2 => exact HC0_1.out); rintro e w30 ⟨rfl, hb⟩; refine ⟨_, rfl, ?_⟩; replace BK537 := zb BK537 hb; replace BK538 := zb BK538 hb; replace HB := zh HB hb; clear hb; obtain ⟨_, _, _, _⟩ := zc2 BK538))
  refine bodyPost_ret (results_ct rfl _ _ gb538 28 #[.int .i64 0, .slice none 0 0] (0, 0) _ rfl (zw BK538) Try.underlying28 rfl (by kernel_rfl)) rfl ?_
  exact ⟨_, zt, by first | exact Kd.R_nil _ _ _ _ _ | exact Kd.N_nil _ _ _ _ _ | exact Kd.V_nil _ _ _ _ _ | exact Kd.Q_nil _ _ _ _ _ | exact Kd.S_nil _ _ _ _ _, zy HB⟩


/-! ### spec_DoesFit: function 34 -/
def spec_DoesFit.f (k : Nat) (a0_0 : Int) (a0_1 : Int) (a0_2 : Int) (a1_0 : Int) (a1_1 : Int) (a1_2 : Int) : Option (Bool × Bool) := (spec_pzHidden.f a1_0 a1_1 a1_2).bind fun t546 => (if t546 = true then ((spec_pzClue.f k a0_0 a0_1 a0_2).bind fun t547 => (if t547 = true then ((spec_pzFits.f k a0_0 a0_1 a0_2 a1_0 a1_1 a1_2).bind fun t548 => (some (t548, true))) else (some (false, false)))) else (some (false, false)))
set_option maxHeartbeats 8000000 in
set_option maxRecDepth 100000 in
theorem spec_DoesFit.calls (k : Nat) (a0_0 : Int) (a0_1 : Int) (a0_2 : Int) (a1_0 : Int) (a1_1 : Int) (a1_2 : Int) (r1 : Bool) (r2 : Bool) (w : World) (h : spec_DoesFit.f k a0_0 a0_1 a0_2 a1_0 a1_1 a1_2 = some (r1, r2)) :
  Calls Try.prog 34 #[.agg #[.int .i64 a0_0, .int .i64 a0_1, .int .i64 a0_2], .agg #[.int .i64 a1_0, .int .i64 a1_1, .int .i64 a1_2]] w fun e w' => e = .returned (.tuple #[.bool r1, .bool r2]) ∧ Below w.heap.size w w' := by
 have hu43 := Try.underlying43; have hu41 := Try.underlying41
 have HB := Aside0.mk (Below.refl w.heap.size w)
 have H : ((spec_pzHidden.f a1_0 a1_1 a1_2).bind fun t546 => (if t546 = true then ((spec_pzClue.f k a0_0 a0_1 a0_2).bind fun t547 => (if t547 = true then ((spec_pzFits.f k a0_0 a0_1 a0_2 a1_0 a1_1 a1_2).bind fun t548 => (some (t548, true))) else (some (false, false)))) else (some (false, false)))) = some (r1, r2) := h
 clear h; replace H := Option.bind_eq_some_iff.mp H; obtain ⟨t546, A30, H⟩ := H; (try dsimp only at H); have A3 := Aside0.mk A30; clear A30
 by_cases c4 : t546 = true
 ·subst c4
  rw [if_pos rfl] at H; replace H := Option.bind_eq_some_iff.mp H; obtain ⟨t547, A50, H⟩ := H
  replace H : (if t547 = true then ((spec_pzFits.f k a0_0 a0_1 a0_2 a1_0 a1_1 a1_2).bind fun t548 => (some (t548, true))) else (some (false, false))) = some (r1, r2) := H
  have A5 := Aside0.mk A50; clear A50
  by_cases c6 : t547 = true
  ·subst c6
   rw [if_pos rfl] at H; replace H := Option.bind_eq_some_iff.mp H; obtain ⟨t548, A70, H⟩ := H
   replace H : (some (t548, true)) = some (r1, r2) := H
   have A7 := Aside0.mk A70; clear A70; simp only [Option.some.injEq, Prod.mk.injEq] at H; obtain ⟨rfl, rfl⟩ := H
   go_enter Try.func34, Try.ntmps34
   go_wp2_with (first | ((with_reducible refine gate_dst (N := 2) rfl ?_); refine zE 2 #[.int .i64 a0_0, .int .i64 a0_1, .int .i64 a0_2] 43 ?_; intro gb544 hg w8 hbox hb; have BK544 := Aside0.mk (hbox); have GW544 := zg HB hg; have GE544 := GW544; replace HB := zh HB hb; clear hb hbox hg) | ((with_reducible refine gate_dst (N := 3) rfl ?_); refine zE 3 #[.int .i64 a1_0, .int .i64 a1_1, .int .i64 a1_2] 41 ?_; intro gb545 hg w9 hbox hb; have BK545 := Aside0.mk (hbox); have GW545 := zg HB hg; have GE545 := GW545; have NB544_545 := zl BK544 hg; have NB545_544 := zr BK544 hg; replace BK544 := zb BK544 hb; replace HB := zh HB hb; clear hb hbox hg; have hnb10 := NB545_544.out; have hnc10 := NB544_545.out; obtain ⟨_, _, _, _, _, _⟩ := zc3 BK545) | ((with_reducible refine gate_callee (f := 62) rfl ?_); refine zG (some 7) Try.func62 #[.agg #[.int .i64 a1_0, .int .i64 a1_1, .int .i64 a1_2]] ?_; (with_reducible refine (spec_pzHidden.calls a1_0 a1_1 a1_2 true _ A3.out).mono ?_); rintro e w12 ⟨rfl, hb⟩; refine ⟨_, rfl, ?_⟩; replace BK544 := zb BK544 hb; replace BK545 := zb BK545 hb; replace HB := zh HB hb; clear hb; obtain ⟨_, _, _, _, _, _⟩ := zc3 BK544) | (go_at_call 75; (with_reducible refine (spec_pzClue.calls k a0_0 a0_1 a0_2 true _ A5.out).mono ?_); rintro e w14 ⟨rfl, hb⟩; replace BK544 := zb BK544 hb; replace BK545 := zb BK545 hb; replace HB := zh HB hb; clear hb; obtain ⟨_, _, _, _, _, _⟩ := zc3 BK544; obtain ⟨_, _, _, _, _, _⟩ := zc3 BK545) | ((with_reducible refine gate_callee (f := 76) rfl ?_); refine zG (some 16) Try.func76 #[.agg #[.int .i64 a0_0, .int .i64 a0_1, .int .i64 a0_2], .agg #[.int .i64 a1_0, .int .i64 a1_1, .int .i64 a1_2]] ?_; (with_reducible refine (spec_pzFits.calls k a0_0 a0_1 a0_2 a1_0 a1_1 a1_2 t548 _ A7.out).mono ?_); rintro e w17 ⟨rfl, hb⟩; refine ⟨_, rfl, ?_⟩; replace BK544 := zb BK544 hb; replace BK545 := zb BK545 hb; replace HB := zh HB hb; clear hb))
   go_ret2
   exact ⟨zt, zy HB⟩
  ·replace c6 := Bool.eq_false_iff.mpr c6
   subst c6; rw [if_neg (show ¬ (false = true) by decide)] at H; simp only [Option.some.injEq, Prod.mk.injEq] at H; obtain ⟨rfl, rfl⟩ := H
   go_enter Try.func34, Try.ntmps34
   go_wp2_with (first | ((with_reducible refine gate_dst (N := 2) rfl ?_); refine zE 2 #[.int .i64 a0_0, .int .i64 a0_1, .int .i64 a0_2] 43 ?_; intro gb544 hg w18 hbox hb; have BK544 := Aside0.mk (hbox); have GW544 := zg HB hg; have GE544 := GW544; replace HB := zh HB hb; clear hb hbox hg) | ((with_reducible refine gate_dst (N := 3) rfl ?_); refine zE 3 #[.int .i64 a1_0, .int .i64 a1_1, .int .i64 a1_2] 41 ?_; intro gb545 hg w19 hbox hb; have BK545 := Aside0.mk (hbox); have GW545 := zg HB hg; have GE545 := GW545; have NB544_545 := zl BK544 hg; have NB545_544 := zr BK544 hg; replace BK544 := zb BK544 hb; replace HB := zh HB hb; clear hb hbox hg; have hnb20 := NB545_544.out; have hnc20 := NB544_545.out; obtain ⟨_, _, _, _, _, _⟩ := zc3 BK545) | ((with_reducible refine gate_callee (f := 62) rfl ?_); refine zG (some 7) Try.func62 #[.agg #[.int .i64 a1_0, .int .i64 a1_1, .int .i64 a1_2]] ?_; (with_reducible refine (spec_pzHidden.calls a1_0 a1_1 a1_2 true _ A3.out).mono ?_); rintro e w22 ⟨rfl, hb⟩; refine ⟨_, rfl, ?_⟩; replace BK544 := zb BK544 hb; replace BK545 := zb BK545 hb; replace HB := zh HB hb; clear hb; obtain ⟨_, _, _, _, _, _⟩ := zc3 BK544) | (go_at_call 75; (with_reducible refine (spec_pzClue.calls k a0_0 a0_1 a0_2 false _ A5.out).mono ?_); rintro e w24 ⟨rfl, hb⟩; replace BK544 := zb BK544 hb; replace BK545 := zb BK545 hb; replace HB := zh HB hb; clear hb))
   go_ret2
   exact ⟨zt, zy HB⟩
 ·replace c4 := Bool.eq_false_iff.mpr c4
  subst c4; rw [if_neg (show ¬ (false = true) by decide)] at H; simp only [Option.some.injEq, Prod.mk.injEq] at H; obtain ⟨rfl, rfl⟩ := H
  go_enter Try.func34, Try.ntmps34
  go_wp2_with (first | ((with_reducible refine gate_dst (N := 2) rfl ?_); refine zE 2 #[.int .i64 a0_0, .int .i64 a0_1, .int .i64 a0_2] 43 ?_; intro gb544 hg w25 hbox hb; have BK544 := Aside0.mk (hbox); have GW544 := zg HB hg; have GE544 := GW544; replace HB := zh HB hb; clear hb hbox hg) | ((with_reducible refine gate_dst (N := 3) rfl ?_); refine zE 3 #[.int .i64 a1_0, .int .i64 a1_1, .int .i64 a1_2] 41 ?_; intro gb545 hg w26 hbox hb; have BK545 := Aside0.mk (hbox); have GW545 := zg HB hg; have GE545 := GW545; have NB544_545 := zl BK544 hg; have NB545_544 := zr BK544 hg; replace BK544 := zb BK544 hb; replace HB := zh HB hb; clear hb hbox hg; have hnb27 := NB545_544.out; have hnc27 := NB544_545.out; obtain ⟨_, _, _, _, _, _⟩ := zc3 BK545) | ((with_reducible refine gate_callee (f := 62) rfl ?_); refine zG (some 7) Try.func62 #[.agg #[.int .i64 a1_0, .int .i64 a1_1, .int .i64 a1_2]] ?_; (with_reducible refine (spec_pzHidden.calls a1_0 a1_1 a1_2 false _ A3.out).mono ?_); rintro e w29 ⟨rfl, hb⟩; refine ⟨_, rfl, ?_⟩; replace BK544 := zb BK544 hb; replace BK545 := zb BK545 hb; replace HB := zh HB hb; clear hb))
  go_ret2
  exact ⟨zt, zy HB⟩


/-! ### impl_IsClue: function 35 -/
def impl_IsClue.f (k : Nat) (a0 : Int) (a1_0 : Int) (a1_1 : Int) (a1_2 : Int) : Option (Bool) := (impl_isSmall.f a0).bind fun t550 => (if t550 = true then ((impl_isClue.f k a1_0 a1_1 a1_2).bind fun t551 => (some t551)) else (some false))
set_option maxHeartbeats 8000000 in
set_option maxRecDepth 100000 in
theorem impl_IsClue.calls (k : Nat) (a0 : Int) (a1_0 : Int) (a1_1 : Int) (a1_2 : Int) (r : Bool) (w : World) (h : impl_IsClue.f k a0 a1_0 a1_1 a1_2 = some r) :
  Calls Try.prog 35 #[.int .i64 a0, .agg #[.int .i64 a1_0, .int .i64 a1_1, .int .i64 a1_2]] w fun e w' => e = .returned (.bool r) ∧ Below w.heap.size w w' := by
 have hu43 := Try.underlying43
 have HB := Aside0.mk (Below.refl w.heap.size w)
 have H : ((impl_isSmall.f a0).bind fun t550 => (if t550 = true then ((impl_isClue.f k a1_0 a1_1 a1_2).bind fun t551 => (some t551)) else (some false))) = some r := h
 clear h; replace H := Option.bind_eq_some_iff.mp H; obtain ⟨t550, A30, H⟩ := H
 replace H : (if t550 = true then ((impl_isClue.f k a1_0 a1_1 a1_2).bind fun t551 => (some t551)) else (some false)) = some r := H
 have A3 := Aside0.mk A30; clear A30
 by_cases c4 : t550 = true
 ·subst c4
  rw [if_pos rfl] at H; replace H := Option.bind_eq_some_iff.mp H; obtain ⟨t551, A50, H⟩ := H
  replace H : (some t551) = some r := H
  have A5 := Aside0.mk A50; clear A50
  obtain rfl := Option.some.inj H
  go_enter Try.func35, Try.ntmps35
  go_wp2_with (first | ((with_reducible refine gate_dst (N := 3) rfl ?_); refine zE 3 #[.int .i64 a1_0, .int .i64 a1_1, .int .i64 a1_2] 43 ?_; intro gb549 hg w6 hbox hb; have BK549 := Aside0.mk (hbox); have GW549 := zg HB hg; have GE549 := GW549; replace HB := zh HB hb; clear hb hbox hg) | ((with_reducible refine gate_callee (f := 72) rfl ?_); refine zG (some 6) Try.func72 #[.int .i64 a0] ?_; (with_reducible refine (impl_isSmall.calls a0 true _ A3.out).mono ?_); rintro e w' ⟨rfl, ⟨nd, rfl⟩⟩; refine ⟨_, rfl, ?_⟩; obtain ⟨_, _, _, _, _, _⟩ := zc3 BK549) | (go_at_call 68; (with_reducible refine (impl_isClue.calls k a1_0 a1_1 a1_2 t551 _ A5.out).mono ?_); rintro e w8 ⟨rfl, hb⟩; replace BK549 := zb BK549 hb; replace HB := zh HB hb; clear hb))
  go_ret
  exact ⟨zt, zy HB⟩
 ·replace c4 := Bool.eq_false_iff.mpr c4
  subst c4; rw [if_neg (show ¬ (false = true) by decide)] at H
  obtain rfl := Option.some.inj H
  go_enter Try.func35, Try.ntmps35
  go_wp2_with (first | ((with_reducible refine gate_dst (N := 3) rfl ?_); refine zE 3 #[.int .i64 a1_0, .int .i64 a1_1, .int .i64 a1_2] 43 ?_; intro gb549 hg w9 hbox hb; have BK549 := Aside0.mk (hbox); have GW549 := zg HB hg; have GE549 := GW549; replace HB := zh HB hb; clear hb hbox hg) | ((with_reducible refine gate_callee (f := 72) rfl ?_); refine zG (some 6) Try.func72 #[.int .i64 a0] ?_; (with_reducible refine (impl_isSmall.calls a0 false _ A3.out).mono ?_); rintro e w' ⟨rfl, ⟨nd, rfl⟩⟩; refine ⟨_, rfl, ?_⟩))
  go_ret
  exact ⟨zt, zy HB⟩


/-! ### spec_IsClue: function 36 -/
def spec_IsClue.f (k : Nat) (a0 : Int) (a1_0 : Int) (a1_1 : Int) (a1_2 : Int) : Option (Bool) := (spec_pzWide.f a0).bind fun t553 => (if t553 = true then ((spec_pzClue.f k a1_0 a1_1 a1_2).bind fun t554 => (some t554)) else (some false))
set_option maxHeartbeats 8000000 in
set_option maxRecDepth 100000 in
theorem spec_IsClue.calls (k : Nat) (a0 : Int) (a1_0 : Int) (a1_1 : Int) (a1_2 : Int) (r : Bool) (w : World) (h : spec_IsClue.f k a0 a1_0 a1_1 a1_2 = some r) :
  Calls Try.prog 36 #[.int .i64 a0, .agg #[.int .i64 a1_0, .int .i64 a1_1, .int .i64 a1_2]] w fun e w' => e = .returned (.bool r) ∧ Below w.heap.size w w' := by
 have hu43 := Try.underlying43
 have HB := Aside0.mk (Below.refl w.heap.size w)
 have H : ((spec_pzWide.f a0).bind fun t553 => (if t553 = true then ((spec_pzClue.f k a1_0 a1_1 a1_2).bind fun t554 => (some t554)) else (some false))) = some r := h
 clear h; replace H := Option.bind_eq_some_iff.mp H; obtain ⟨t553, A30, H⟩ := H
 replace H : (if t553 = true then ((spec_pzClue.f k a1_0 a1_1 a1_2).bind fun t554 => (some t554)) else (some false)) = some r := H
 have A3 := Aside0.mk A30; clear A30
 by_cases c4 : t553 = true
 ·subst c4
  rw [if_pos rfl] at H; replace H := Option.bind_eq_some_iff.mp H; obtain ⟨t554, A50, H⟩ := H
  replace H : (some t554) = some r := H
  have A5 := Aside0.mk A50; clear A50
  obtain rfl := Option.some.inj H
  go_enter Try.func36, Try.ntmps36
  go_wp2_with (first | ((with_reducible refine gate_dst (N := 3) rfl ?_); refine zE 3 #[.int .i64 a1_0, .int .i64 a1_1, .int .i64 a1_2] 43 ?_; intro gb552 hg w6 hbox hb; have BK552 := Aside0.mk (hbox); have GW552 := zg HB hg; have GE552 := GW552; replace HB := zh HB hb; clear hb hbox hg) | ((with_reducible refine gate_callee (f := 77) rfl ?_); refine zG (some 6) Try.func77 #[.int .i64 a0] ?_; (with_reducible refine (spec_pzWide.calls a0 true _ A3.out).mono ?_); rintro e w' ⟨rfl, ⟨nd, rfl⟩⟩; refine ⟨_, rfl, ?_⟩; obtain ⟨_, _, _, _, _, _⟩ := zc3 BK552) | (go_at_call 75; (with_reducible refine (spec_pzClue.calls k a1_0 a1_1 a1_2 t554 _ A5.out).mono ?_); rintro e w8 ⟨rfl, hb⟩; replace BK552 := zb BK552 hb; replace HB := zh HB hb; clear hb))
  go_ret
  exact ⟨zt, zy HB⟩
 ·replace c4 := Bool.eq_false_iff.mpr c4
  subst c4; rw [if_neg (show ¬ (false = true) by decide)] at H
  obtain rfl := Option.some.inj H
  go_enter Try.func36, Try.ntmps36
  go_wp2_with (first | ((with_reducible refine gate_dst (N := 3) rfl ?_); refine zE 3 #[.int .i64 a1_0, .int .i64 a1_1, .int .i64 a1_2] 43 ?_; intro gb552 hg w9 hbox hb; have BK552 := Aside0.mk (hbox); have GW552 := zg HB hg; have GE552 := GW552; replace HB := zh HB hb; clear hb hbox hg) | ((with_reducible refine gate_callee (f := 77) rfl ?_); refine zG (some 6) Try.func77 #[.int .i64 a0] ?_; (with_reducible refine (spec_pzWide.calls a0 false _ A3.out).mono ?_); rintro e w' ⟨rfl, ⟨nd, rfl⟩⟩; refine ⟨_, rfl, ?_⟩))
  go_ret
  exact ⟨zt, zy HB⟩

end Go.Proofs.Ythioojdannlhiaa.P
