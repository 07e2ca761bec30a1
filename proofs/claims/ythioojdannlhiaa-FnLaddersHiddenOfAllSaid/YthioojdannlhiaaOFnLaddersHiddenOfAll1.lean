/- The law FnLaddersHiddenOfAll is proved: a call of it returns true and leaves its arguments as they were; and what this needs. Every input that the given rows speak of; nothing else is asked. -/
import Derived.Test.YthioojdannlhiaaOFnLaddersHiddenOfAll0
namespace Go.Proofs.Ythioojdannlhiaa.P
open Go.RowKit Go.Proofs.YthioojdannlhiaaW.PrintWords Go.Proofs.YthioojdannlhiaaW.PrintLast Go.Proofs.YthioojdannlhiaaW.PrintMore
set_option linter.unusedVariables false
theorem zO1_0 {p : Prop} (h : p := by (with_reducible repeat (first | apply Kd.R_alloc | apply Kd.R_drewN | apply Kd.R_drew)); exact (Kd.R_mono (Kd.R_far (p := ⟨gb239, 2, none⟩) (Kd.R_far (p := ⟨gb239, 1, none⟩) (Kd.R_far (p := ⟨gb239, 0, none⟩) (Kd.R_mono HO_5.out (fun k_ hk => (⟨hk, hk.2⟩ : _ ∧ k_ ≠ gb239))) (fun _ hk => hk.2) (.int .i64 a0)) (fun _ hk => hk.2) (.int .i64 x6_1)) (fun _ hk => hk.2) (.int .i64 x7_2)) (fun _ h_ => h_.1))) : p := h
theorem zO1_1 {p : Prop} (h : p := by (try simp only [List.map_toArray, List.map_cons, List.map_nil]); first | done | rfl | (simp only [List.length_drop, List.length_take]; rfl)) : p := h
theorem zO1_2 {p : Prop} (h : p := by repeat (first | (with_reducible first | exact HB.out | apply below_alloc | apply pw_below_drewN | apply below_drew1) | exact HB.out)) : p := h
theorem zO1_3 {p : Prop} (h : p := by (with_reducible repeat (first | apply Kd.V_alloc | apply Kd.V_drewN | apply Kd.V_drew)); exact HO259.out) : p := h
theorem zO1_4 {p : Prop} (h : p := by (with_reducible repeat (first | apply Kd.V_alloc | apply Kd.V_drewN | apply Kd.V_drew)); exact HO264.out) : p := h
theorem zO1_5 {p : Prop} (h : p := by (with_reducible repeat (first | apply Kd.V_alloc | apply Kd.V_drewN | apply Kd.V_drew)); exact HO0.out) : p := h
theorem zO1_6 {p : Prop} (h : p := by first | (with_reducible assumption) | assumption) : p := h
theorem zO1_7 {p : Prop} (h : p := by simp) : p := h
end Go.Proofs.Ythioojdannlhiaa.P
namespace Go.Proofs.Ythioojdannlhiaa.P
open Go.RowKit Go.Proofs.YthioojdannlhiaaW.PrintWords Go.Proofs.YthioojdannlhiaaW.PrintLast Go.Proofs.YthioojdannlhiaaW.PrintMore
attribute [local go_sem] max2_int min2_int max_two min_two max_three min_three max_four min_four   -- for this text's walks alone
set_option linter.unusedVariables false
set_option linter.unusedSimpArgs false

attribute [local go_sem high] eqA43
/-! ### impl_doesFit: function 69 -/
def impl_doesFit.f (k : Nat) (a0_0 : Int) (a0_1 : Int) (a0_2 : Int) (a1_0 : Int) (a1_1 : Int) (a1_2 : Int) : Option (Bool) := if a0_0 = 3 then ((impl_told.f k a1_0 a1_1 a1_2 a0_0 a0_1).bind fun bt229 => (some (bt229.1 == a0_0 && (bt229.2.1 == a0_1 && (bt229.2.2 == a0_2))))) else ((impl_told.f k a1_0 a1_1 a1_2 a0_0 0).bind fun bt232 => (some (bt232.1 == a0_0 && (bt232.2.1 == a0_1 && (bt232.2.2 == a0_2)))))
def impl_doesFit.T4 : Bool × List (List Nat × List Nat) := (true, [([], []), ([], []), ([1], [1]), ([], []), ([0, 2, 3], [0, 2, 3]), ([], []), ([4, 5], [4, 5]), ([6, 4, 0, 1, 2, 3, 4, 5, 6], [6])])
def impl_doesFit.B4 : List Nat := [0, 0, 2, 0, 15, 0, 63, 127]
theorem impl_doesFit.tab4 : rtab .any (opsOf Try.f69 4) = impl_doesFit.T4 := by kernel_rfl
theorem impl_doesFit.bits4 : waitsOk impl_doesFit.T4.2 impl_doesFit.B4 = true := by kernel_rfl
set_option maxHeartbeats 8000000 in
set_option maxRecDepth 100000 in
theorem impl_doesFit.calls (k : Nat) (a0_0 : Int) (a0_1 : Int) (a0_2 : Int) (a1_0 : Int) (a1_1 : Int) (a1_2 : Int) (r : Bool) (w : World) (h : impl_doesFit.f k a0_0 a0_1 a0_2 a1_0 a1_1 a1_2 = some r) :
  Calls Try.prog 69 #[.agg #[.int .i64 a0_0, .int .i64 a0_1, .int .i64 a0_2], .agg #[.int .i64 a1_0, .int .i64 a1_1, .int .i64 a1_2]] w fun e w' => e = .returned (.bool r) ∧ Below w.heap.size w w' := by
 have hu43 := Try.underlying43; have hu41 := Try.underlying41
 have HB := Aside0.mk (Below.refl w.heap.size w)
 have H : (if a0_0 = 3 then ((impl_told.f k a1_0 a1_1 a1_2 a0_0 a0_1).bind fun bt229 => (some (bt229.1 == a0_0 && (bt229.2.1 == a0_1 && (bt229.2.2 == a0_2))))) else ((impl_told.f k a1_0 a1_1 a1_2 a0_0 0).bind fun bt232 => (some (bt232.1 == a0_0 && (bt232.2.1 == a0_1 && (bt232.2.2 == a0_2)))))) = some r := h
 clear h
 by_cases c3 : a0_0 = 3
 ·rw [if_pos c3] at H
  have c3b0 : (a0_0 == 3) = true := beq_iff_eq.mpr c3
  have c3b1 : (a0_0 != 3) = false := bne_eq_false_iff_eq.mpr c3
  clear c3; replace H := Option.bind_eq_some_iff.mp H; obtain ⟨⟨t229, t230, t231⟩, A40, H⟩ := H
  replace H : (some (t229 == a0_0 && (t230 == a0_1 && (t231 == a0_2)))) = some r := H
  have A4 := Aside0.mk A40; clear A40
  obtain rfl := Option.some.inj H
  go_enter Try.func69, Try.ntmps69
  try go_wp2_with (first | ((with_reducible refine gate_dst (N := 2) rfl ?_); refine zE 2 #[.int .i64 a0_0, .int .i64 a0_1, .int .i64 a0_2] 43 ?_; intro gb227 hg w5 hbox hb; have BK227 := Aside0.mk (hbox); have GW227 := zg HB hg; have GE227 := GW227; replace HB := zh HB hb; clear hb hbox hg) | ((with_reducible refine gate_dst (N := 3) rfl ?_); refine zE 3 #[.int .i64 a1_0, .int .i64 a1_1, .int .i64 a1_2] 41 ?_; intro gb228 hg w6 hbox hb; have BK228 := Aside0.mk (hbox); have GW228 := zg HB hg; have GE228 := GW228; have NB227_228 := zl BK227 hg; have NB228_227 := zr BK227 hg; replace BK227 := zb BK227 hb; replace HB := zh HB hb; clear hb hbox hg; have hnb7 := NB227_228.out; have hnc7 := NB228_227.out; obtain ⟨_, _, _, _, _, _⟩ := zc3 BK227))
  replace BK227 := Aside0.mk (blk_drew BK227.out); replace BK228 := Aside0.mk (blk_drew BK228.out); replace HB := Aside0.mk (below_drew1 HB.out)
  refine start_ (n := 8) (S := fun w' => w'.cell? ⟨gb228, 0, none⟩ = some (.int .i64 a1_0) ∧ w'.cell? ⟨gb228, 1, none⟩ = some (.int .i64 a1_1) ∧ w'.cell? ⟨gb228, 2, none⟩ = some (.int .i64 a1_2) ∧ w'.cell? ⟨gb227, 0, none⟩ = some (.int .i64 a0_0) ∧ w'.cell? ⟨gb227, 1, none⟩ = some (.int .i64 a0_1) ∧ w'.cell? ⟨gb227, 2, none⟩ = some (.int .i64 a0_2)) (ds := []) #[false, false, false, false, false, false, false, false] (by kernel_rfl) rfl rfl ⟨(blk_cell BK228.out 0).trans rfl, (blk_cell BK228.out 1).trans rfl, (blk_cell BK228.out 2).trans rfl, (blk_cell BK227.out 0).trans rfl, (blk_cell BK227.out 1).trans rfl, (blk_cell BK227.out 2).trans rfl⟩ (fun hHeld => ?_); refine with_tabW impl_doesFit.tab4 impl_doesFit.bits4 (fun HT_ HW_ => ?_)
  generalize w6.drew = w9 at BK227 BK228 HB hHeld ⊢
  refine zA 1 12 HT_ ?_
  refine zA 3 14 HT_ ?_
  refine zT 0 11 HT_ HW_ hHeld ?_
  refine zT 2 13 HT_ HW_ hHeld ?_
  refine zT 5 16 HT_ HW_ hHeld ?_
  refine zO 4 (some 15) HT_ (fun K hK => ?_)
  refine goes_ Try.func61 (by kernel_rfl) rfl #[.agg #[.int .i64 a1_0, .int .i64 a1_1, .int .i64 a1_2], .int .i64 a0_0, .int .i64 a0_1] (by rfl) rfl rfl zO1_1 ?_
  with_reducible refine (impl_told.calls k a1_0 a1_1 a1_2 a0_0 a0_1 t229 t230 t231 _ A4.out).mono ?_
  rintro e w10 ⟨rfl, hb⟩
  refine ⟨_, rfl, ?_⟩
  replace BK227 := zb BK227 hb; replace BK228 := zb BK228 hb; replace HB := zh HB hb
  (try clear hb)
  (try clear hb2)
  (try clear hk)
  (try clear hi)
  refine hK.out _ _ ⟨(blk_cell BK228.out 0).trans rfl, (blk_cell BK228.out 1).trans rfl, (blk_cell BK228.out 2).trans rfl, (blk_cell BK227.out 0).trans rfl, (blk_cell BK227.out 1).trans rfl, (blk_cell BK227.out 2).trans rfl⟩ (fun hHeld => ?_)
  clear hK K
  refine zN 15 ?_
  refine zA 6 17 HT_ ?_
  refine zA 7 4 HT_ ?_
  refine done_ (done_of HT_.out (by kernel_rfl)) ?_
  try go_wp2
  go_ret
  exact ⟨zt, zy HB⟩
 ·rw [if_neg c3] at H
  have c3b0 : (a0_0 == 3) = false := beq_eq_false_iff_ne.mpr c3
  have c3b1 : (a0_0 != 3) = true := bne_iff_ne.mpr c3
  replace H := Option.bind_eq_some_iff.mp H; obtain ⟨⟨t232, t233, t234⟩, A110, H⟩ := H
  replace H : (some (t232 == a0_0 && (t233 == a0_1 && (t234 == a0_2)))) = some r := H
  have A11 := Aside0.mk A110; clear A110
  obtain rfl := Option.some.inj H
  go_enter Try.func69, Try.ntmps69
  try go_wp2_with (first | ((with_reducible refine gate_dst (N := 2) rfl ?_); refine zE 2 #[.int .i64 a0_0, .int .i64 a0_1, .int .i64 a0_2] 43 ?_; intro gb227 hg w12 hbox hb; have BK227 := Aside0.mk (hbox); have GW227 := zg HB hg; have GE227 := GW227; replace HB := zh HB hb; clear hb hbox hg) | ((with_reducible refine gate_dst (N := 3) rfl ?_); refine zE 3 #[.int .i64 a1_0, .int .i64 a1_1, .int .i64 a1_2] 41 ?_; intro gb228 hg w13 hbox hb; have BK228 := Aside0.mk (hbox); have GW228 := zg HB hg; have GE228 := GW228; have NB227_228 := zl BK227 hg; have NB228_227 := zr BK227 hg; replace BK227 := zb BK227 hb; replace HB := zh HB hb; clear hb hbox hg; have hnb14 := NB227_228.out; have hnc14 := NB228_227.out; obtain ⟨_, _, _, _, _, _⟩ := zc3 BK227))
  replace BK227 := Aside0.mk (blk_drew BK227.out); replace BK228 := Aside0.mk (blk_drew BK228.out); replace HB := Aside0.mk (below_drew1 HB.out)
  refine start_ (n := 8) (S := fun w' => w'.cell? ⟨gb228, 0, none⟩ = some (.int .i64 a1_0) ∧ w'.cell? ⟨gb228, 1, none⟩ = some (.int .i64 a1_1) ∧ w'.cell? ⟨gb228, 2, none⟩ = some (.int .i64 a1_2) ∧ w'.cell? ⟨gb227, 0, none⟩ = some (.int .i64 a0_0) ∧ w'.cell? ⟨gb227, 1, none⟩ = some (.int .i64 a0_1) ∧ w'.cell? ⟨gb227, 2, none⟩ = some (.int .i64 a0_2)) (ds := []) #[false, false, false, false, false, false, false, false] (by kernel_rfl) rfl rfl ⟨(blk_cell BK228.out 0).trans rfl, (blk_cell BK228.out 1).trans rfl, (blk_cell BK228.out 2).trans rfl, (blk_cell BK227.out 0).trans rfl, (blk_cell BK227.out 1).trans rfl, (blk_cell BK227.out 2).trans rfl⟩ (fun hHeld => ?_); refine with_tabW impl_doesFit.tab4 impl_doesFit.bits4 (fun HT_ HW_ => ?_)
  generalize w13.drew = w16 at BK227 BK228 HB hHeld ⊢
  refine zA 1 12 HT_ ?_
  refine zA 3 14 HT_ ?_
  refine zT 0 11 HT_ HW_ hHeld ?_
  refine zT 2 13 HT_ HW_ hHeld ?_
  refine zT 5 16 HT_ HW_ hHeld ?_
  refine zO 4 (some 15) HT_ (fun K hK => ?_)
  refine goes_ Try.func61 (by kernel_rfl) rfl #[.agg #[.int .i64 a1_0, .int .i64 a1_1, .int .i64 a1_2], .int .i64 a0_0, .int .i64 0] (by rfl) rfl rfl zO1_1 ?_
  with_reducible refine (impl_told.calls k a1_0 a1_1 a1_2 a0_0 0 t232 t233 t234 _ A11.out).mono ?_
  rintro e w17 ⟨rfl, hb⟩
  refine ⟨_, rfl, ?_⟩
  replace BK227 := zb BK227 hb; replace BK228 := zb BK228 hb; replace HB := zh HB hb
  (try clear hb)
  (try clear hb2)
  (try clear hk)
  (try clear hi)
  refine hK.out _ _ ⟨(blk_cell BK228.out 0).trans rfl, (blk_cell BK228.out 1).trans rfl, (blk_cell BK228.out 2).trans rfl, (blk_cell BK227.out 0).trans rfl, (blk_cell BK227.out 1).trans rfl, (blk_cell BK227.out 2).trans rfl⟩ (fun hHeld => ?_)
  clear hK K
  refine zN 15 ?_
  refine zA 6 17 HT_ ?_
  refine zA 7 4 HT_ ?_
  refine done_ (done_of HT_.out (by kernel_rfl)) ?_
  try go_wp2
  go_ret
  exact ⟨zt, zy HB⟩


/-! ### anySolution: function 0 -/
def anySolution.p (k : Nat) (a b c : Int) (x : S43) : Option Bool := (impl_doesFit.f k x.f0 x.f1 x.f2 a b c).bind fun t => some (!t)
def anySolution.f (k : Nat) (l : List S43) (a b c : Int) : Option Bool := cAny (anySolution.p k a b c) l
set_option maxHeartbeats 8000000 in
theorem anySolution.gives (k : Nat) (a b c : Int) (g : Nat) (w : World) (hbox : w.heap[g]? = some (.cells #[.int .i64 a, .int .i64 b, .int .i64 c] 41 (0, 0))) : cGives w 88 #[.pointer (some ⟨g, 0, none⟩)] (anySolution.p k a b c) := by
 intro x r W h hB
 obtain ⟨t, ht, h⟩ := Option.bind_eq_some_iff.1 h
 have HH := Aside0.mk (Option.some.inj h)
 clear h; have hu1 := Try.underlying43; have hu2 := Try.underlying41
 have hbW : W.heap[g]? = some (.cells #[.int .i64 a, .int .i64 b, .int .i64 c] 41 (0, 0)) := (hB.block g (Array.getElem?_eq_some_iff.1 hbox).1).trans hbox
 have hc0 : W.cell? ⟨g, 0, none⟩ = some (.int .i64 a) := (blk_cell hbW 0).trans rfl
 have hc1 : W.cell? ⟨g, 1, none⟩ = some (.int .i64 b) := (blk_cell hbW 1).trans rfl
 have hc2 : W.cell? ⟨g, 2, none⟩ = some (.int .i64 c) := (blk_cell hbW 2).trans rfl
 have hlt : g < W.heap.size := (Array.getElem?_eq_some_iff.1 hbW).1
 have hq := fun W' => impl_doesFit.calls k x.f0 x.f1 x.f2 a b c t W' ht
 clear hbox hbW hB ht
 have HB := Aside0.mk (Below.refl W.heap.size W)
 show Calls Try.prog 88 #[.agg #[.int .i64 x.f0, .int .i64 x.f1, .int .i64 x.f2], .pointer (some ⟨g, 0, none⟩)] W _
 go_enter Try.func88, Try.ntmps88
 go_wp2_with (go_at_call 69; refine (hq _).mono ?_; rintro e w' ⟨rfl, hb⟩; have n0_ := Aside0.mk (below_step zO1_2 hb); clear HB hb; have HB := n0_; clear n0_)
 go_ret
 exact ⟨by rw [← HH.out]; rfl, by repeat (first | (with_reducible first | exact HB.out | apply below_alloc | apply pw_below_drewN | apply below_drew1) | exact HB.out)⟩
theorem anySolution.calls (k : Nat) (A0 : Option Addr) (c0 : Nat) (l0 : List S43) (a1_0 a1_1 a1_2 : Int) (r : Bool) (w : World) (hr0 : Kd.C k43 w A0 l0.length l0) (hc0 : l0.length ≤ c0) (h : anySolution.f k l0 a1_0 a1_1 a1_2 = some r) (g : Nat) (hbox : w.heap[g]? = some (.cells #[.int .i64 a1_0, .int .i64 a1_1, .int .i64 a1_2] 41 (0, 0))) :
  Calls Try.prog 73 #[.slice A0 l0.length c0, .func (.func 88) #[] #[.pointer (some ⟨g, 0, none⟩)]] w fun e w' => e = .returned (.bool r) ∧ Below w.heap.size w w' :=
 cContainsFunc 88 _ _ (enters_of Try.func88 (by kernel_rfl) rfl) A0 c0 l0 r w (anySolution.gives k a1_0 a1_1 a1_2 g w hbox) hr0 hc0 h



/-! ### impl_solutions: function 57 -/
mutual
def impl_solutions.l0 : Nat → Int → List (S43) → List (S41) → Int → Option ((List (S41)))
 | 0, _, _, _, _ => none
 | k + 1, x0, x1, x5, x6 => if x6 ≤ 12 then (impl_solutions.l1 k x0 x1 x5 x6 1) else (some x5)
def impl_solutions.l1 : Nat → Int → List (S43) → List (S41) → Int → Int → Option ((List (S41)))
 | 0, _, _, _, _, _ => none
 | k + 1, x0, x1, x5, x6, x7 => if x7 ≤ 12 then ((anySolution.f k x1 x0 x6 x7).bind fun t240 => (if t240 = true then (impl_solutions.l1 k x0 x1 x5 x6 (wrap64 (x7 + 1))) else (if x5.length < 5864062014805 then (impl_solutions.l1 k x0 x1 (x5 ++ [(⟨x0, x6, x7⟩ : S41)]) x6 (wrap64 (x7 + 1))) else (none)))) else (impl_solutions.l0 k x0 x1 x5 (wrap64 (x6 + 1)))
end
def impl_solutions.f (k : Nat) (a0 : Int) (l1 : List (S43)) : Option ((List (S41))) := impl_solutions.l0 k a0 l1 (([] : List (S41))) 1
set_option maxHeartbeats 8000000 in
set_option maxRecDepth 100000 in
theorem impl_solutions.calls (k : Nat) (a0 : Int) (A1 : Option Addr) (c1 : Nat) (l1 : List (S43)) (r : List (S41)) (w : World) (hr1 : Kd.C k43 w A1 l1.length l1) (hc1 : l1.length ≤ c1) (h : impl_solutions.f k a0 l1 = some r) :
  Calls Try.prog 57 #[.int .i64 a0, .slice A1 l1.length c1] w fun e w' => ∃ v0_ : Value, e = .returned (v0_) ∧ Kd.R k41 41 w' w.heap.size (fun _ => True) v0_ r ∧ Below w.heap.size w w' := by
 have hu41 := Try.underlying41; have HR1 := Aside0.mk hr1; have HC1 := Aside0.mk hc1; clear hr1 hc1
 have HB := Aside0.mk (Below.refl w.heap.size w)
 have H : (impl_solutions.l0 k a0 l1 (([] : List (S41))) 1) = some r := h
 clear h
 obtain ⟨y236, hy236⟩ : ∃ y_ : List (S41), y_ = (([] : List (S41))) := ⟨_, rfl⟩
 replace H : (impl_solutions.l0 k a0 l1 y236 1) = some r := by first | (rw [hy236]; with_reducible exact H) | (have H2_ := (Option.bind_some _ _).symm.trans H; rw [hy236]; with_reducible exact H2_) | (have H2_ := (Option.bind_some _ _).symm.trans H; with_reducible exact H2_) | with_reducible exact H | (rw [hy236]; exact H) | exact H
 have Ny236 := Aside0.mk hy236; clear hy236; have H' := Aside0.mk H; clear H
 go_enter Try.func57, Try.ntmps57
 go_wp2_with (first | ((with_reducible refine gate_dst (N := 9) rfl ?_); refine Kd.R_lit k41 _ 41 ?hg (N := 9) ?hd (xs := ([] : List (S41))) (inner := []) (ok := fun _ => True) (okp := fun _ => True) ?hr ?hp (fun _ hk => hk) trivial (Below.refl _ _) (Nat.le_refl _) zO1_7 ?_; (case hd => rfl); (case hg => rfl); (case hr => first | (go_simp; done) | (go_simp; rfl)); (case hp => exact (Reps.none _ _)); intro v237 w3 ho4 hb hg_ hnew_; clear hg_ hnew_; (first | rw [← Ny236.out] at ho4 | (simp only [Int.reduceToNat] at ho4; rw [← Ny236.out] at ho4)); have HO238 := Aside0.mk (Kd.R_lower ho4 (below_size (zy HB))); replace HB := zh HB hb; clear hb ho4))
 go_loopg [5, 6] k (fun kq v5 v6 w' => ∃ (x5_1 : List (S41)) (x6_1 : Int), v6 = .int .i64 x6_1 ∧ Aside0 (impl_solutions.l0 kq a0 l1 x5_1 x6_1 = some r) ∧ Aside0 (kq ≤ k) ∧ Aside0 (Kd.R k41 41 w' w.heap.size (fun _ => True) v5 x5_1) ∧ Aside0 (Below w.heap.size w w'))
 case atStart => exact ⟨(y236), (1), zu, H', ⟨Nat.le_refl _⟩, zp HO238, ⟨zy HB⟩⟩
 case round =>
  clear H'
  obtain ⟨x5_1, x6_1, rfl, HA, HK1, HO_5, HB⟩ := hrel
  cases gk with
  | zero => exact absurd HA.out (by simp [impl_solutions.l0])
  | succ k1 =>
   have H := HA.out; clear HA; simp only [impl_solutions.l0] at H
   by_cases c5 : x6_1 ≤ 12
   ·rw [if_pos c5] at H
    have c5b0 : decide (x6_1 ≤ 12) = true := decide_eq_true c5; clear c5; have H' := Aside0.mk H; clear H
    go_wp2
    go_loopg [5, 7] k1 (fun kq v5 v7 w' => ∃ (x5_2 : List (S41)) (x7_2 : Int), v7 = .int .i64 x7_2 ∧ Aside0 (impl_solutions.l1 kq a0 l1 x5_2 x6_1 x7_2 = some r) ∧ Aside0 (kq ≤ k1) ∧ Aside0 (Kd.R k41 41 w' w.heap.size (fun _ => True) v5 x5_2) ∧ Aside0 (Below w.heap.size w w'))
    case atStart => exact ⟨(x5_1), (1), zu, H', ⟨Nat.le_refl _⟩, zp HO_5, ⟨zy HB⟩⟩
    case round =>
     clear H'
     obtain ⟨x5_2, x7_2, rfl, HA, HK2, HO_5, HB⟩ := hrel
     cases gk with
     | zero => exact absurd HA.out (by simp [impl_solutions.l1])
     | succ k2 =>
      have H := HA.out; clear HA; simp only [impl_solutions.l1] at H
      by_cases c6 : x7_2 ≤ 12
      ·rw [if_pos c6] at H
       have c6b0 : decide (x7_2 ≤ 12) = true := decide_eq_true c6; clear c6; replace H := Option.bind_eq_some_iff.mp H; obtain ⟨t240, A70, H⟩ := H; (try dsimp only at H); have A7 := Aside0.mk A70; clear A70
       by_cases c8 : t240 = true
       ·subst c8
        rw [if_pos rfl] at H; have H' := Aside0.mk H; clear H
        go_wp2_with (first | ((with_reducible refine gate_dst (N := 8) rfl ?_); refine zE 8 #[.int .i64 0, .int .i64 0, .int .i64 0] 41 ?_; intro gb239 hg w9 hbox hb; have n0_ := Aside0.mk (Kd.R_below (Kd.R_elderB (zs HO_5) gb239 (Nat.le_of_eq hg.symm)) hb); have BK239 := Aside0.mk (hbox); have GW239 := zg HB hg; have GE239 := GW239; replace HB := zh HB hb; clear HO_5; have HO_5 := n0_; clear n0_; clear hb hbox hg; obtain ⟨_, _, _, _, _, _⟩ := zc3 BK239) | ((with_reducible refine gate_callee (f := 73) rfl ?_); refine zG (some 24) Try.func73 #[.slice A1 l1.length c1, .func (.func 88) #[] #[.pointer (some ⟨gb239, 0, none⟩)]] ?_; (with_reducible refine (anySolution.calls k2 _ _ l1 a0 x6_1 x7_2 true _ ?side1 ?side2 A7.out gb239 ?sideB).mono ?_); (case sideB => exact (zw BK239)); (case side1 => exact Kd.C_below HR1.out (zy HB)); (case side2 => exact HC1.out); rintro e w11 ⟨rfl, hb⟩; refine ⟨_, rfl, ?_⟩; have n0_ := Aside0.mk (Kd.R_below zO1_0 hb); have n1_ := Aside0.mk (blk_below (g := gb239) (o := .cells #[.int .i64 a0, .int .i64 x6_1, .int .i64 x7_2] 41 (0, 0)) (zw BK239) hb); replace HB := zh HB hb; clear HO_5; have HO_5 := n0_; clear n0_; clear BK239; have BK239 := n1_; clear n1_; clear hb))
        go_roundg k2
        case measure => have := HK1.out; have := HK2.out; omega
        case rel => exact ⟨(x5_2), (wrap64 (x7_2 + 1)), zu, H', ⟨by have := HK1.out; have := HK2.out; omega⟩, ⟨by (with_reducible repeat (first | apply Kd.R_alloc | apply Kd.R_drewN | apply Kd.R_drew)); exact Kd.R_mono HO_5.out (fun _ hk => trivial)⟩, ⟨zy HB⟩⟩
       ·replace c8 := Bool.eq_false_iff.mpr c8
        subst c8; rw [if_neg (show ¬ (false = true) by decide)] at H
        by_cases c12 : x5_2.length < 5864062014805
        ·rw [if_pos c12] at H
         have LMc12 := Aside0.mk c12; clear c12
         obtain ⟨y241, hy241⟩ : ∃ y_ : List (S41), y_ = (x5_2 ++ [(⟨a0, x6_1, x7_2⟩ : S41)]) := ⟨_, rfl⟩
         replace H : (impl_solutions.l1 k2 a0 l1 y241 x6_1 (wrap64 (x7_2 + 1))) = some r := by first | (rw [hy241]; with_reducible exact H) | (have H2_ := (Option.bind_some _ _).symm.trans H; rw [hy241]; with_reducible exact H2_) | (have H2_ := (Option.bind_some _ _).symm.trans H; with_reducible exact H2_) | with_reducible exact H | (rw [hy241]; exact H) | exact H
         have Ny241 := Aside0.mk hy241; clear hy241; have H' := Aside0.mk H; clear H
         go_wp2_with (first | ((with_reducible refine gate_dst (N := 8) rfl ?_); refine zE 8 #[.int .i64 0, .int .i64 0, .int .i64 0] 41 ?_; intro gb239 hg w13 hbox hb; have n0_ := Aside0.mk (Kd.R_below (Kd.R_elderB (zs HO_5) gb239 (Nat.le_of_eq hg.symm)) hb); have BK239 := Aside0.mk (hbox); have GW239 := zg HB hg; have GE239 := GW239; replace HB := zh HB hb; clear HO_5; have HO_5 := n0_; clear n0_; clear hb hbox hg; obtain ⟨_, _, _, _, _, _⟩ := zc3 BK239) | ((with_reducible refine gate_callee (f := 73) rfl ?_); refine zG (some 24) Try.func73 #[.slice A1 l1.length c1, .func (.func 88) #[] #[.pointer (some ⟨gb239, 0, none⟩)]] ?_; (with_reducible refine (anySolution.calls k2 _ _ l1 a0 x6_1 x7_2 false _ ?side1 ?side2 A7.out gb239 ?sideB).mono ?_); (case sideB => exact (zw BK239)); (case side1 => exact Kd.C_below HR1.out (zy HB)); (case side2 => exact HC1.out); rintro e w15 ⟨rfl, hb⟩; refine ⟨_, rfl, ?_⟩; have n0_ := Aside0.mk (Kd.R_below zO1_0 hb); have n1_ := Aside0.mk (blk_below (g := gb239) (o := .cells #[.int .i64 a0, .int .i64 x6_1, .int .i64 x7_2] 41 (0, 0)) (zw BK239) hb); replace HB := zh HB hb; clear HO_5; have HO_5 := n0_; clear n0_; clear BK239; have BK239 := n1_; clear n1_; clear hb; obtain ⟨_, _, _, _, _, _⟩ := zc3 BK239) | ((with_reducible refine gate_builtin (b := .append) (xs := #[.tmp 26, .tmp 28]) rfl ?_); at_builtin; refine Kd.R_append k41 (w0 := w) w.heap.size rfl (.tmp 26) (.tmp 28) 51 41 (.agg #[(.int .i64 0), (.int .i64 0), (.int .i64 0)]) 24 rfl Try.underlying51 info41 rfl (by decide) (by omega) u5 x5_2 (⟨a0, x6_1, x7_2⟩ : S41) [.int .i64 a0, .int .i64 x6_1, .int .i64 x7_2] (fun k_ => k_ ≠ gb239) (fun _ => False) rfl rfl ?aP (fun _ hk => hk.elim) ?aF ?aO ?aB ?aS ?aL ?_; (case aP => exact k41_mkM _ _ _ (⟨a0, x6_1, x7_2⟩ : S41)); (case aB => exact (zy HB)); (case aF => exact (fun k_ hk => Kd.freshB (zq BK239) k_ hk)); (case aO => exact (by (with_reducible repeat (first | apply Kd.R_alloc | apply Kd.R_drewN | apply Kd.R_drew)); exact Kd.R_mono HO_5.out (fun _ hk => hk.2))); (case aS => exact (below_size (zy HB))); (case aL => have := LMc12.out; omega); intro v242 w17 ho hb hg hat; rw [← Ny241.out] at ho; have n0_ := Aside0.mk (blk_grown (zq BK239) hg (Kd.R_away HO_5.out (fun _ hk => hk.2))); have HO243 := Aside0.mk (ho); replace HB := Aside0.mk hb; clear HO_5; clear BK239; have BK239 := n0_; clear n0_; clear ho hb hg hat))
         go_roundg k2
         case measure => have := HK1.out; have := HK2.out; omega
         case rel => exact ⟨(y241), (wrap64 (x7_2 + 1)), zu, H', ⟨by have := HK1.out; have := HK2.out; omega⟩, ⟨by (with_reducible repeat (first | apply Kd.R_alloc | apply Kd.R_drewN | apply Kd.R_drew)); exact Kd.R_mono HO243.out (fun _ hk => trivial)⟩, ⟨zy HB⟩⟩
        ·rw [if_neg c12] at H
         exact absurd H zO1_7
      ·rw [if_neg c6] at H
       have c6b0 : decide (x7_2 ≤ 12) = false := decide_eq_false c6; clear c6; have H' := Aside0.mk H; clear H
       go_wp2
       go_roundg k2
       case measure => have := HK1.out; have := HK2.out; omega
       case rel => exact ⟨(x5_2), (wrap64 (x6_1 + 1)), zu, H', ⟨by have := HK1.out; have := HK2.out; omega⟩, zp HO_5, ⟨zy HB⟩⟩
   ·rw [if_neg c5] at H
    have c5b0 : decide (x6_1 ≤ 12) = false := decide_eq_false c5; clear c5
    obtain rfl := Option.some.inj H
    go_wp2
    go_ret
    exact ⟨_, zt, by (with_reducible repeat (first | apply Kd.R_alloc | apply Kd.R_drewN | apply Kd.R_drew)); exact HO_5.out, zy HB⟩


/-! ### impl_isSolved: function 49 -/
def impl_isSolved.f (k : Nat) (a0 : Int) (l1 : List (S43)) : Option (Bool) := (impl_solutions.f k a0 l1).bind fun t244 => (some ((t244.length : Int) == 1))
set_option maxHeartbeats 8000000 in
set_option maxRecDepth 100000 in
theorem impl_isSolved.calls (k : Nat) (a0 : Int) (A1 : Option Addr) (c1 : Nat) (l1 : List (S43)) (r : Bool) (w : World) (hr1 : Kd.C k43 w A1 l1.length l1) (hc1 : l1.length ≤ c1) (h : impl_isSolved.f k a0 l1 = some r) :
  Calls Try.prog 49 #[.int .i64 a0, .slice A1 l1.length c1] w fun e w' => e = .returned (.bool r) ∧ Below w.heap.size w w' := by
 have HR1 := Aside0.mk hr1; have HC1 := Aside0.mk hc1; clear hr1 hc1
 have HB := Aside0.mk (Below.refl w.heap.size w)
 have H : ((impl_solutions.f k a0 l1).bind fun t244 => (some ((t244.length : Int) == 1))) = some r := h
 clear h; replace H := Option.bind_eq_some_iff.mp H; obtain ⟨t244, A30, H⟩ := H
 replace H : (some ((t244.length : Int) == 1)) = some r := H
 have A3 := Aside0.mk A30; clear A30
 obtain rfl := Option.some.inj H
 go_enter Try.func49, Try.ntmps49
 go_wp2_with (first | ((with_reducible refine gate_callee (f := 57) rfl ?_); refine zG (some 7) Try.func57 #[.int .i64 a0, .slice A1 l1.length c1] ?_; (with_reducible refine (impl_solutions.calls k a0 _ _ l1 t244 _ ?side1 ?side2 A3.out).mono ?_); (case side1 => repeat (first | exact HR1.out | (with_reducible refine Kd.C_alloc ?_ _) | (with_reducible refine Kd.C_drewN ?_ _) | (with_reducible refine Kd.C_drew ?_))); (case side2 => exact HC1.out); rintro e w4 ⟨v245, rfl, ho0, hb⟩; refine ⟨_, rfl, ?_⟩; have HO246 := Aside0.mk (Kd.R_lower ho0 (below_size (zy HB))); replace HB := zh HB hb; clear hb ho0; obtain ⟨Ao5, co5, eo5⟩ := Kd.R_slice HO246.out; subst eo5))
 go_ret
 exact ⟨zt, zy HB⟩


/-! ### impl_Clue_50: function 50 -/
def impl_Clue_50.f (l0 : List S43) : Option (List S43) := if l0.length < 5864062014805 then some l0 else none
set_option maxHeartbeats 8000000 in
set_option maxRecDepth 100000 in
theorem impl_Clue_50.calls (A0 : Option Addr) (c0 : Nat) (l0 : List S43) (r : List S43) (w : World) (hr0 : Kd.C k43 w A0 l0.length l0) (hc0 : l0.length ≤ c0) (h : impl_Clue_50.f l0 = some r) :
  Calls Try.prog 50 #[.slice A0 l0.length c0] w fun e w' => ∃ v0_ : Value, e = .returned (v0_) ∧ Kd.R k43 43 w' w.heap.size (fun _ => True) v0_ r ∧ Below w.heap.size w w' := by
 unfold impl_Clue_50.f at h
 by_cases hl : l0.length < 5864062014805
 ·rw [if_pos hl] at h
  obtain rfl := Option.some.inj h
  have q27 : ∀ (w : World) (a : Option Addr) (n c n' c' : Nat), (binOp .eql 26 (.slice a n c) (.slice none n' c')).run Try.prog w = .ok (.bool a.isNone) w := fun w a n c n' c' => Lib.run_eql_slice_nil w _ _ a n c n' c' Try.underlying26
  cases A0 with
  | none =>
   have h0 : l0 = [] := by
    rcases Nat.eq_zero_or_pos l0.length with h0 | h0
    ·exact List.eq_nil_of_length_eq_zero h0
    ·obtain ⟨ad, h, _⟩ := hr0.2.2 h0; cases h
   subst h0; clear hr0 hc0 hl h
   have HB := Aside0.mk (Below.refl w.heap.size w)
   go_enter Try.func50, Try.ntmps50
   go_wp2
   go_ret
   exact ⟨_, rfl, Kd.R_nil _ _ _ _ _, HB.out⟩
  | some ad =>
   have HR0 := Aside0.mk hr0; have HC0 := Aside0.mk hc0; have HL := Aside0.mk hl; clear hr0 hc0 hl h
   have HB := Aside0.mk (Below.refl w.heap.size w)
   go_enter Try.func50, Try.ntmps50
   go_wp2_with (first | ((with_reducible refine gate_dst (N := 5) rfl ?_); refine Kd.R_lit k43 _ 43 ?hg (N := 5) ?hd (xs := ([] : List (S43))) (inner := []) (ok := fun _ => True) (okp := fun _ => True) ?hr ?hp (fun _ hk => hk) trivial (Below.refl _ _) (Nat.le_refl _) zO1_7 ?_; (case hd => rfl); (case hg => rfl); (case hr => first | (go_simp; done) | (go_simp; rfl)); (case hp => exact (Reps.none _ _)); intro v1 w3 ho4 hb hg_ hnew_; clear hg_ hnew_; have n0_ := Aside0.mk (Kd.R_lower ho4 (below_size zO1_2)); have n1_ := Aside0.mk (below_step zO1_2 hb); clear HB; have HO1 := n0_; have HB := n1_; clear n0_ n1_; clear hb ho4) | ((with_reducible refine gate_builtin (b := .append) (xs := #[.tmp 5, .tmp 6]) rfl ?_); at_builtin; refine Kd.R_append_rows k43 (w0 := w) w.heap.size rfl (.tmp 5) (.tmp 6) 26 43 (.agg #[(.int .i64 0), (.int .i64 0), (.int .i64 0)]) 24 rfl Try.underlying26 info43 rfl (by decide) (by omega) v1 [] l0 _ _ _ (fun _ => True) (fun _ => False) rfl rfl ?aO ?aR (fun _ _ h => h) (fun _ h => h.elim) ?aF ?aB ?aS ?aL ?_; (case aR => repeat (first | exact (Kd.C_below HR0.out HB.out) | (with_reducible refine Kd.C_alloc ?_ _) | (with_reducible refine Kd.C_drewN ?_ _) | (with_reducible refine Kd.C_drew ?_))); (case aB => exact zO1_2); (case aF => exact (fun _ _ => trivial)); (case aO => exact (by (with_reducible repeat (first | apply Kd.R_alloc | apply Kd.R_drewN | apply Kd.R_drew)); exact HO1.out)); (case aS => exact (below_size zO1_2)); (case aL => have := HL.out; simp only [List.length_nil]; omega); intro v2 w4 ho hb hg hat; rw [List.nil_append] at ho; have n0_ := Aside0.mk ho; have n1_ := Aside0.mk hb; clear HB HO1; have HO2 := n0_; have HB := n1_; clear n0_ n1_; clear ho hb hg hat))
   go_ret
   exact ⟨_, rfl, by (with_reducible repeat (first | apply Kd.R_alloc | apply Kd.R_drewN | apply Kd.R_drew)); exact HO2.out, by repeat (first | (with_reducible first | exact HB.out | apply below_alloc | apply pw_below_drewN | apply below_drew1) | exact HB.out)⟩
 ·rw [if_neg hl] at h
  exact absurd h zO1_7



/-! ### growNil: function 0 -/
def growNil.f (n : Int) : Option (List S43) := if 0 ≤ n ∧ n < 1000 then some [] else none
set_option maxHeartbeats 8000000 in
set_option maxRecDepth 100000 in
theorem growNil.calls (n : Int) (r : List S43) (w : World) (h : growNil.f n = some r) :
  Calls Try.prog 98 #[.slice none 0 0, .int .i64 n] w fun e w' => ∃ v0_ : Value, e = .returned (v0_) ∧ Kd.R k43 43 w' w.heap.size (fun _ => True) v0_ r ∧ Below w.heap.size w w' := by
 unfold growNil.f at h
 by_cases hn : 0 ≤ n ∧ n < 1000
 ·rw [if_pos hn] at h
  obtain rfl := Option.some.inj h
  have hn0 : ¬ n < 0 := by omega
  clear h
  have HB := Aside0.mk (Below.refl w.heap.size w)
  by_cases hp : n > 0
  ·go_enter Try.func98, Try.ntmps98
   go_wp2_with (first | ((with_reducible refine gate_builtin (b := .append) (xs := #[.tmp 20, .tmp 21]) rfl ?_); at_builtin; refine Kd.R_append_zeros k43 (w0 := w) w.heap.size rfl (.tmp 20) (.tmp 21) 26 3 43 (.agg #[(.int .i64 0), (.int .i64 0), (.int .i64 0)]) 24 rfl Try.underlying26 Try.underlying3 info43 rfl (by decide) (by omega) (.slice none 0 0) [] ⟨0, 0, 0⟩ (n : Int) (fun _ => True) rfl rfl (k43_mkM _ _ _ z43) (fun _ _ => trivial) (Kd.R_nil _ _ _ _ _) (by omega) ?aB ?aS ?aL ?_; (case aB => exact HB.out); (case aS => exact (below_size HB.out)); (case aL => simp only [List.length_nil]; omega); intro v1 w1 ho hb hg hat; obtain ⟨A1, c1, e1⟩ := Kd.R_slice ho; subst e1; obtain ⟨i0, hi0, _, _, _⟩ := info_parts info43; have hcut := cut_to (P := Try.prog) 26 43 .i64 Try.underlying26 hi0 A1 _ c1 0 (by omega) (by omega) (Kd.R_reads' ho).2.1; have HR := Aside0.mk (Kd.R_take (m := 0) ho (by omega)); have HB2 := Aside0.mk hb; clear hb hg hat ho HB hi0; simp only [List.take_zero, Int.toNat_zero] at HR hcut))
   go_ret
   exact ⟨_, rfl, HR.out, HB2.out⟩
  ·go_enter Try.func98, Try.ntmps98
   go_wp2
   go_ret
   exact ⟨_, rfl, Kd.R_nil _ _ _ _ _, HB.out⟩
 ·rw [if_neg hn] at h
  exact absurd h zO1_7



/-! ### impl_Clue_86: function 86 -/
mutual
def impl_Clue_86.l0 : Nat → List (List (S43)) → Int → List (List (S43)) → Int → Int → Option ((List (S43)))
 | 0, _, _, _, _, _ => none
 | k + 1, x0, x3, x9, x10, x11 => if x11 < x10 then (if 0 ≤ x11 then (if x11 < (x9.length : Int) then (if (wrap64 (x3 + ((rd_L4 x9 x11).length : Int))) < 0 then (none) else (impl_Clue_86.l0 k x0 (wrap64 (x3 + ((rd_L4 x9 x11).length : Int))) x9 x10 (wrap64 (x11 + 1)))) else (none)) else (none)) else ((growNil.f x3).bind fun t248 => (impl_Clue_86.l1 k t248 x0 (x0.length : Int) 0))
def impl_Clue_86.l1 : Nat → List (S43) → List (List (S43)) → Int → Int → Option ((List (S43)))
 | 0, _, _, _, _ => none
 | k + 1, x6, x25, x26, x27 => if x27 < x26 then (if 0 ≤ x27 then (if x27 < (x25.length : Int) then (if x6.length + (rd_L4 x25 x27).length < 5864062014805 then (impl_Clue_86.l1 k (x6 ++ (rd_L4 x25 x27)) x25 x26 (wrap64 (x27 + 1))) else (none)) else (none)) else (none)) else (some x6)
end
def impl_Clue_86.f (k : Nat) (l0 : List (List (S43))) : Option ((List (S43))) := impl_Clue_86.l0 k l0 0 l0 (l0.length : Int) 0
set_option maxHeartbeats 8000000 in
set_option maxRecDepth 100000 in
theorem impl_Clue_86.calls (k : Nat) (A0 : Option Addr) (c0 : Nat) (l0 : List (List (S43))) (r : List (S43)) (w : World) (hr0 : Kd.C (Kd.slice 43 k43) w A0 l0.length l0) (hc0 : l0.length ≤ c0) (h : impl_Clue_86.f k l0 = some r) :
  Calls Try.prog 86 #[.slice A0 l0.length c0] w fun e w' => ∃ v0_ : Value, e = .returned (v0_) ∧ Kd.R k43 43 w' w.heap.size (fun _ => True) v0_ r ∧ Below w.heap.size w w' := by
 have HR0 := Aside0.mk hr0; have HC0 := Aside0.mk hc0; clear hr0 hc0
 have HB := Aside0.mk (Below.refl w.heap.size w)
 have H : (impl_Clue_86.l0 k l0 0 l0 (l0.length : Int) 0) = some r := h
 clear h; have H' := Aside0.mk H; clear H
 go_enter Try.func86, Try.ntmps86
 go_wp2
 go_loopg [3, 11] k (fun kq v3 v11 w' => ∃ (x3_1 : Int) (x11_1 : Int), v3 = .int .i64 x3_1 ∧ v11 = .int .i64 x11_1 ∧ Aside0 (impl_Clue_86.l0 kq l0 x3_1 l0 (l0.length : Int) x11_1 = some r) ∧ Aside0 (kq ≤ k) ∧ Aside0 (Below w.heap.size w w'))
 case atStart => exact ⟨(0), (0), zu, zu, H', ⟨Nat.le_refl _⟩, ⟨zy HB⟩⟩
 case round =>
  clear H'
  obtain ⟨x3_1, x11_1, rfl, rfl, HA, HK1, HB⟩ := hrel
  cases gk with
  | zero => exact absurd HA.out (by simp [impl_Clue_86.l0])
  | succ k1 =>
   have H := HA.out; clear HA; simp only [impl_Clue_86.l0] at H
   by_cases c2 : x11_1 < (l0.length : Int)
   ·rw [if_pos c2] at H
    have c2b0 : decide (x11_1 < (l0.length : Int)) = true := decide_eq_true c2; clear c2
    by_cases c3 : 0 ≤ x11_1
    ·rw [if_pos c3] at H
     have c3b0 : decide (0 ≤ x11_1) = true := decide_eq_true c3; clear c3
     by_cases c4 : x11_1 < (l0.length : Int)
     ·rw [if_pos c4] at H
      have c4b0 : decide (x11_1 < (l0.length : Int)) = true := decide_eq_true c4; clear c4
      by_cases c5 : (wrap64 (x3_1 + ((rd_L4 l0 x11_1).length : Int))) < 0
      ·rw [if_pos c5] at H
       exact absurd H zO1_7
      ·rw [if_neg c5] at H
       have c5b0 : decide ((wrap64 (x3_1 + ((rd_L4 l0 x11_1).length : Int))) < 0) = false := decide_eq_false c5; clear c5; have H' := Aside0.mk H; clear H
       have p247 : 0 ≤ (x11_1 : Int) := of_decide_eq_true zO1_6
       have q247 : x11_1 < (l0.length : Int) := of_decide_eq_true zO1_6
       obtain ⟨ad247, A247_0, c247_0, e247, hx247_0, hl247_0, hi247_0⟩ := at_L4 HR0.out x11_1 p247 q247
       cases e247
       replace hx247_0 := (HB.out.cell (World.block_lt_of_cell? w _ hx247_0)).trans hx247_0
       have HR247_0 := Aside0.mk hi247_0; have HC247_0 := Aside0.mk hl247_0; clear hi247_0 hl247_0; replace p247 := eq_true p247; replace q247 := eq_true q247
       go_wp2
       go_roundg k1
       case measure => have := HK1.out; omega
       case rel => exact ⟨(wrap64 (x3_1 + ((rd_L4 l0 x11_1).length : Int))), (wrap64 (x11_1 + 1)), zu, zu, H', ⟨by have := HK1.out; omega⟩, ⟨zy HB⟩⟩
     ·rw [if_neg c4] at H
      exact absurd H zO1_7
    ·rw [if_neg c3] at H
     exact absurd H zO1_7
   ·rw [if_neg c2] at H
    have c2b0 : decide (x11_1 < (l0.length : Int)) = false := decide_eq_false c2; clear c2; replace H := Option.bind_eq_some_iff.mp H; obtain ⟨t248, A60, H⟩ := H
    replace H : (impl_Clue_86.l1 k1 t248 l0 (l0.length : Int) 0) = some r := H
    have A6 := Aside0.mk A60; clear A60; have H' := Aside0.mk H; clear H
    go_wp2_with (first | ((with_reducible refine gate_callee (f := 98) rfl ?_); refine zG (some 24) Try.func98 #[.slice none 0 0, .int .i64 x3_1] ?_; (with_reducible refine (growNil.calls x3_1 t248 _ A6.out).mono ?_); rintro e w7 ⟨v249, rfl, ho0, hb⟩; refine ⟨_, rfl, ?_⟩; have HO250 := Aside0.mk (Kd.R_lower ho0 (below_size (zy HB))); replace HB := zh HB hb; clear hb ho0))
    go_loopg [6, 27] k1 (fun kq v6 v27 w' => ∃ (x6_2 : List (S43)) (x27_2 : Int), v27 = .int .i64 x27_2 ∧ Aside0 (impl_Clue_86.l1 kq x6_2 l0 (l0.length : Int) x27_2 = some r) ∧ Aside0 (kq ≤ k1) ∧ Aside0 (Kd.R k43 43 w' w.heap.size (fun _ => True) v6 x6_2) ∧ Aside0 (Below w.heap.size w w'))
    case atStart => exact ⟨(t248), (0), zu, H', ⟨Nat.le_refl _⟩, zp HO250, ⟨zy HB⟩⟩
    case round =>
     clear H'
     obtain ⟨x6_2, x27_2, rfl, HA, HK2, HO_6, HB⟩ := hrel
     cases gk with
     | zero => exact absurd HA.out (by simp [impl_Clue_86.l1])
     | succ k2 =>
      have H := HA.out; clear HA; simp only [impl_Clue_86.l1] at H
      by_cases c8 : x27_2 < (l0.length : Int)
      ·rw [if_pos c8] at H
       have c8b0 : decide (x27_2 < (l0.length : Int)) = true := decide_eq_true c8; clear c8
       by_cases c9 : 0 ≤ x27_2
       ·rw [if_pos c9] at H
        have c9b0 : decide (0 ≤ x27_2) = true := decide_eq_true c9; clear c9
        by_cases c10 : x27_2 < (l0.length : Int)
        ·rw [if_pos c10] at H
         have c10b0 : decide (x27_2 < (l0.length : Int)) = true := decide_eq_true c10; clear c10
         by_cases c11 : x6_2.length + (rd_L4 l0 x27_2).length < 5864062014805
         ·rw [if_pos c11] at H
          have LMc11 := Aside0.mk c11; clear c11
          obtain ⟨y252, hy252⟩ : ∃ y_ : List (S43), y_ = (x6_2 ++ (rd_L4 l0 x27_2)) := ⟨_, rfl⟩
          replace H : (impl_Clue_86.l1 k2 y252 l0 (l0.length : Int) (wrap64 (x27_2 + 1))) = some r := by first | (rw [hy252]; with_reducible exact H) | (have H2_ := (Option.bind_some _ _).symm.trans H; rw [hy252]; with_reducible exact H2_) | (have H2_ := (Option.bind_some _ _).symm.trans H; with_reducible exact H2_) | with_reducible exact H | (rw [hy252]; exact H) | exact H
          have Ny252 := Aside0.mk hy252; clear hy252; have H' := Aside0.mk H; clear H
          have p251 : 0 ≤ (x27_2 : Int) := of_decide_eq_true zO1_6
          have q251 : x27_2 < (l0.length : Int) := of_decide_eq_true zO1_6
          obtain ⟨ad251, A251_0, c251_0, e251, hx251_0, hl251_0, hi251_0⟩ := at_L4 HR0.out x27_2 p251 q251
          cases e251
          replace hx251_0 := (HB.out.cell (World.block_lt_of_cell? w _ hx251_0)).trans hx251_0
          have HR251_0 := Aside0.mk hi251_0; have HC251_0 := Aside0.mk hl251_0; clear hi251_0 hl251_0; replace p251 := eq_true p251; replace q251 := eq_true q251
          go_wp2_with (first | ((with_reducible refine gate_builtin (b := .append) (xs := #[.tmp 31, .tmp 32]) rfl ?_); at_builtin; refine Kd.R_append_rows k43 (w0 := w) w.heap.size rfl (.tmp 31) (.tmp 32) 26 43 (.agg #[(.int .i64 0), (.int .i64 0), (.int .i64 0)]) 24 rfl Try.underlying26 info43 rfl (by decide) (by omega) u6 x6_2 (rd_L4 l0 x27_2) _ _ _ (fun _ => True) (fun _ => False) rfl rfl ?aO ?aR (fun _ _ h => h) (fun _ h => h.elim) ?aF ?aB ?aS ?aL ?_; (case aR => repeat (first | exact (Kd.C_below HR251_0.out HB.out) | (with_reducible refine Kd.C_alloc ?_ _) | (with_reducible refine Kd.C_drewN ?_ _) | (with_reducible refine Kd.C_drew ?_))); (case aB => exact (zy HB)); (case aF => exact (fun _ _ => trivial)); (case aO => exact (zs HO_6)); (case aS => exact (below_size (zy HB))); (case aL => have := LMc11.out; omega); intro v253 w12 ho hb hg hat; rw [← Ny252.out] at ho; have HO254 := Aside0.mk (ho); replace HB := Aside0.mk hb; clear HO_6; clear ho hb hg hat))
          go_roundg k2
          case measure => have := HK1.out; have := HK2.out; omega
          case rel => exact ⟨(y252), (wrap64 (x27_2 + 1)), zu, H', ⟨by have := HK1.out; have := HK2.out; omega⟩, zp HO254, ⟨zy HB⟩⟩
         ·rw [if_neg c11] at H
          exact absurd H zO1_7
        ·rw [if_neg c10] at H
         exact absurd H zO1_7
       ·rw [if_neg c9] at H
        exact absurd H zO1_7
      ·rw [if_neg c8] at H
       have c8b0 : decide (x27_2 < (l0.length : Int)) = false := decide_eq_false c8; clear c8
       obtain rfl := Option.some.inj H
       go_wp2
       go_ret
       exact ⟨_, zt, by (with_reducible repeat (first | apply Kd.R_alloc | apply Kd.R_drewN | apply Kd.R_drew)); exact HO_6.out, zy HB⟩


/-! ### impl_without: function 51 -/
def impl_without.f (k : Nat) (l0 : List (S43)) (a1 : Int) : Option ((List (S43))) := if 0 ≤ a1 then (if a1 ≤ (l0.length : Int) then (if 0 ≤ (wrap64 (a1 + 1)) then (if (wrap64 (a1 + 1)) ≤ (l0.length : Int) then ((impl_Clue_86.f k (([(l0.take (a1 : Int).toNat), (l0.drop ((wrap64 (a1 + 1)) : Int).toNat)] : List (List (S43))))).bind fun t268 => (some t268)) else (none)) else (none)) else (none)) else (none)
def impl_without.T1 : Bool × List (List Nat × List Nat) := (true, [([], []), ([], []), ([0, 1], [0, 1]), ([], []), ([], []), ([4], [4]), ([3, 5], [3, 5]), ([2, 6], [2, 6]), ([7], [7]), ([8, 8, 0, 1, 2, 3, 4, 5, 6, 7, 8], [8])])
def impl_without.B1 : List Nat := [0, 0, 3, 0, 0, 16, 56, 127, 255, 511]
theorem impl_without.tab1 : rtab .any (opsOf Try.f51 1) = impl_without.T1 := by kernel_rfl
theorem impl_without.bits1 : waitsOk impl_without.T1.2 impl_without.B1 = true := by kernel_rfl
set_option maxHeartbeats 8000000 in
set_option maxRecDepth 100000 in
theorem impl_without.calls (k : Nat) (P0_ : Nat → Prop) (A0 : Option Addr) (c0 : Nat) (l0 : List (S43)) (a1 : Int) (r : List (S43)) (w : World) (hs0 : Kd.V k43 43 w w.heap.size (fun k_ => P0_ k_) (.slice A0 l0.length c0) l0) (h : impl_without.f k l0 a1 = some r) :
  Calls Try.prog 51 #[.slice A0 l0.length c0, .int .i64 a1] w fun e w' => ∃ v0_ : Value, e = .returned (v0_) ∧ Kd.R k43 43 w' w.heap.size (fun k_ => (w.heap.size ≤ k_)) v0_ r ∧ Below w.heap.size w w' := by
 have HO0 := Aside0.mk (show Kd.V k43 43 w w.heap.size (fun k_ => (P0_ k_ ∨ w.heap.size ≤ k_)) (.slice A0 l0.length c0) l0 from Kd.V_mono hs0 (fun k_ hk => .inl hk))
 have HB := Aside0.mk (Below.refl w.heap.size w)
 have H : (if 0 ≤ a1 then (if a1 ≤ (l0.length : Int) then (if 0 ≤ (wrap64 (a1 + 1)) then (if (wrap64 (a1 + 1)) ≤ (l0.length : Int) then ((impl_Clue_86.f k (([(l0.take (a1 : Int).toNat), (l0.drop ((wrap64 (a1 + 1)) : Int).toNat)] : List (List (S43))))).bind fun t268 => (some t268)) else (none)) else (none)) else (none)) else (none)) = some r := h
 clear h
 by_cases c3 : 0 ≤ a1
 ·rw [if_pos c3] at H
  have c3b0 := eq_true c3
  have c3b1 : decide (0 ≤ a1) = true := decide_eq_true c3
  clear c3
  by_cases c4 : a1 ≤ (l0.length : Int)
  ·rw [if_pos c4] at H
   have c4b0 := eq_true c4
   have c4b1 : decide (a1 ≤ (l0.length : Int)) = true := decide_eq_true c4
   clear c4
   obtain ⟨y255, hy255⟩ : ∃ y_ : List (S43), y_ = (l0.take (a1 : Int).toNat) := ⟨_, rfl⟩
   replace H : (if 0 ≤ (wrap64 (a1 + 1)) then (if (wrap64 (a1 + 1)) ≤ (l0.length : Int) then ((impl_Clue_86.f k (([y255, (l0.drop ((wrap64 (a1 + 1)) : Int).toNat)] : List (List (S43))))).bind fun t268 => (some t268)) else (none)) else (none)) = some r := by first | (rw [hy255]; with_reducible exact H) | (have H2_ := (Option.bind_some _ _).symm.trans H; rw [hy255]; with_reducible exact H2_) | (have H2_ := (Option.bind_some _ _).symm.trans H; with_reducible exact H2_) | with_reducible exact H | (rw [hy255]; exact H) | exact H
   have Ny255 := Aside0.mk hy255; clear hy255
   obtain ⟨ji5, hji5⟩ : ∃ j_ : Int, (wrap64 (a1 + 1)) = j_ := ⟨_, rfl⟩
   replace H : (if 0 ≤ (ji5) then (if (ji5) ≤ (l0.length : Int) then ((impl_Clue_86.f k (([y255, (l0.drop ((ji5) : Int).toNat)] : List (List (S43))))).bind fun t268 => (some t268)) else (none)) else (none)) = some r := by first | (rw [hji5] at H; exact H) | (simp only [hji5] at H ⊢; exact H)
   have hji5w : (IntKind.i64.wrap (a1 + 1)) = ji5 := (i64_w _).trans hji5
   by_cases c6 : 0 ≤ (ji5)
   ·rw [if_pos c6] at H
    have c6b0 := eq_true c6
    have c6b1 : decide (0 ≤ (ji5)) = true := decide_eq_true c6
    clear c6
    by_cases c7 : (ji5) ≤ (l0.length : Int)
    ·rw [if_pos c7] at H
     have c7b0 := eq_true c7
     have c7b1 : decide ((ji5) ≤ (l0.length : Int)) = true := decide_eq_true c7
     clear c7
     obtain ⟨y260, hy260⟩ : ∃ y_ : List (S43), y_ = (l0.drop ((ji5) : Int).toNat) := ⟨_, rfl⟩
     replace H : ((impl_Clue_86.f k (([y255, y260] : List (List (S43))))).bind fun t268 => (some t268)) = some r := by first | (rw [hy260]; with_reducible exact H) | (have H2_ := (Option.bind_some _ _).symm.trans H; rw [hy260]; with_reducible exact H2_) | (have H2_ := (Option.bind_some _ _).symm.trans H; with_reducible exact H2_) | with_reducible exact H | (rw [hy260]; exact H) | exact H
     have Ny260 := Aside0.mk hy260; clear hy260
     obtain ⟨y265, hy265⟩ : ∃ y_ : List (List (S43)), y_ = (([y255, y260] : List (List (S43)))) := ⟨_, rfl⟩
     replace H : ((impl_Clue_86.f k y265).bind fun t268 => (some t268)) = some r := by first | (rw [hy265]; with_reducible exact H) | (have H2_ := (Option.bind_some _ _).symm.trans H; rw [hy265]; with_reducible exact H2_) | (have H2_ := (Option.bind_some _ _).symm.trans H; with_reducible exact H2_) | with_reducible exact H | (rw [hy265]; exact H) | exact H
     have Ny265 := Aside0.mk hy265; clear hy265; replace H := Option.bind_eq_some_iff.mp H; obtain ⟨t268, A80, H⟩ := H
     replace H : (some t268) = some r := H
     have A8 := Aside0.mk A80; clear A80
     obtain rfl := Option.some.inj H
     go_enter Try.func51, Try.ntmps51
     try go_wp2
     have n0_ := Aside0.mk (Kd.V_drew HO0.out)
     replace HB := Aside0.mk (below_drew1 HB.out); clear HO0; have HO0 := n0_; clear n0_
     have q10 : (a1 : Int) ≤ ((l0.length : Int) : Int) := of_decide_eq_true zO1_6
     obtain ⟨i010, hi010, _, hsz10, _⟩ := info_parts info43
     have hroom10 : l0.length ≤ c0 := (Kd.V_reads' HO0.out).2.1
     have hC10 : Kd.F k43 _ _ A0 l0.length l0 := (Kd.V_at (base := w.heap.size) HO0.out).2.2
     have hcut10 := cut_to (P := Try.prog) 26 43 .i64 Try.underlying26 hi010 A0 l0.length c0 a1 (of_decide_eq_true zO1_6) q10 hroom10
     have hr10 := Kd.F_take (m := (a1 : Int).toNat) hC10 (by omega)
     have hy10 : y255.length = (a1 : Int).toNat := (by rw [Ny255.out, List.length_take]; omega)
     rw [← Ny255.out] at hr10
     rw [← hy10] at hcut10
     have HO259 := Aside0.mk (show Kd.V k43 43 _ w.heap.size _ (.slice A0 y255.length c0) y255 from Kd.V_mk (by omega) hr10)
     have HC259 := Aside0.mk (show y255.length ≤ c0 from by omega)
     clear hr10 hC10 hroom10 hi010 hsz10; have KY10 := Aside0.mk hy10; clear hy10; replace q10 := eq_true q10
     have q11 : ((ji5) : Int) ≤ ((l0.length : Int) : Int) := of_decide_eq_true zO1_6
     obtain ⟨i011, hi011, _, hsz11, _⟩ := info_parts info43
     have hroom11 : l0.length ≤ c0 := (Kd.V_reads' HO0.out).2.1
     have hC11 : Kd.F k43 _ _ A0 l0.length l0 := (Kd.V_at (base := w.heap.size) HO0.out).2.2
     have q011 : (0 : Int) ≤ ((ji5) : Int) := of_decide_eq_true zO1_6
     have hcut11 := cut_from (P := Try.prog) 26 43 .i64 Try.underlying26 hi011 3 hsz11 A0 l0.length c0 (ji5) q011 q11
     have hr11 := Kd.F_cut (m := ((ji5) : Int).toNat) (c := c0) hC11 (by omega) hroom11
     obtain ⟨A11, hA11⟩ : ∃ A1, A1 = (if c0 = ((ji5) : Int).toNat then A0 else (A0 : Option Addr).map (·.add (((ji5) : Int).toNat * 3))) := ⟨_, rfl⟩
     obtain ⟨c11, hc11⟩ : ∃ c1, c1 = c0 - ((ji5) : Int).toNat := ⟨_, rfl⟩
     have hy11 : y260.length = l0.length - ((ji5) : Int).toNat := (by rw [Ny260.out, List.length_drop] <;> omega)
     rw [show (l0).drop ((ji5) : Int).toNat = y260 from Ny260.out.symm] at hr11
     replace hr11 : Kd.F k43 _ _ A11 y260.length y260 := (by rw [hA11]; exact hr11)
     rw [← hy11, ← hA11, ← hc11] at hcut11
     have HO264 := Aside0.mk (show Kd.V k43 43 _ w.heap.size _ (.slice A11 y260.length c11) y260 from Kd.V_mk (by rw [hy11, hc11]; exact Nat.sub_le_sub_right hroom11 _) hr11)
     have HC264 := Aside0.mk (show y260.length ≤ c11 from by rw [hy11, hc11]; exact Nat.sub_le_sub_right hroom11 _)
     clear hr11 hC11 hroom11 hi011 hsz11 hc11; have KY11 := Aside0.mk hy11; have KA11 := Aside0.mk hA11; clear hy11 hA11; replace q11 := eq_true q11
     refine start_ (n := 10) (S := fun w' => True) (ds := []) #[false, false, false, false, false, false, false, false, false, false] (by kernel_rfl) rfl rfl trivial (fun hHeld => ?_); refine with_tabW impl_without.tab1 impl_without.bits1 (fun HT_ HW_ => ?_)
     generalize w.drew = w9 at HO0 HB HO259 HO264 hHeld ⊢
     refine zA 0 5 HT_ ?_
     refine zA 1 6 HT_ ?_
     refine zA 2 7 HT_ ?_
     refine zA 3 8 HT_ ?_
     refine zA 4 9 HT_ ?_
     refine zA 5 10 HT_ ?_
     refine zA 6 11 HT_ ?_
     refine zO 7 (some 12) HT_ (fun K hK => ?_)
     refine Kd.N_lit_step (Kd.slice 43 k43) _ 26 ?hg (N' := 12) ?hd (xs := ([y255, y260] : List (List (S43)))) (inner := [.slice A0 y255.length c0, .slice A11 y260.length c11]) (ok := (fun k_ => (P0_ k_ ∨ w.heap.size ≤ k_))) (okp := (fun k_ => (P0_ k_ ∨ w.heap.size ≤ k_))) ?hr ?hp (fun _ hk => hk) ((show ∀ k_, w9.heap.size ≤ k_ → (fun k_ => (P0_ k_ ∨ w.heap.size ≤ k_)) k_ from fun k_ hk => (.inr (Nat.le_trans (below_size (zy HB)) hk))) _ (Nat.le_refl _)) (Below.refl _ _) (Nat.le_refl _) zO1_7 ?_; (case hd => rfl); (case hg => rfl); (case hr => first | (go_simp; done) | (go_simp; rfl)); (case hp => exact (Reps.one (show Kd.FK (Kd.slice 43 k43) _ _ y255 [.slice A0 y255.length c0] from (Kd.FK_slice_mk (Kd.V_reads' (Kd.V_mono (ok' := (fun k_ => (P0_ k_ ∨ w.heap.size ≤ k_))) (HO259.out) (fun k_ hk => hk))).2.1 (Kd.V_F (Kd.V_mono (ok' := (fun k_ => (P0_ k_ ∨ w.heap.size ≤ k_))) (HO259.out) (fun k_ hk => hk))))) (Reps.one (show Kd.FK (Kd.slice 43 k43) _ _ y260 [.slice A11 y260.length c11] from (Kd.FK_slice_mk (Kd.V_reads' (Kd.V_mono (ok' := (fun k_ => (P0_ k_ ∨ w.heap.size ≤ k_))) (HO264.out) (fun k_ hk => hk))).2.1 (Kd.V_F (Kd.V_mono (ok' := (fun k_ => (P0_ k_ ∨ w.heap.size ≤ k_))) (HO264.out) (fun k_ hk => hk))))) (Reps.none _ _))))
     intro v266 w12 ho13 hb hg_ hnew_
     clear hg_ hnew_
     (first | rw [← Ny265.out] at ho13 | (simp only [Int.reduceToNat] at ho13; rw [← Ny265.out] at ho13))
     have n0_ := Aside0.mk (Kd.V_elder' zO1_5 (Kd.N_base ho13) hb)
     have n1_ := Aside0.mk (Kd.V_elder' zO1_3 (Kd.N_base ho13) hb)
     have n2_ := Aside0.mk (Kd.V_elder' zO1_4 (Kd.N_base ho13) hb)
     have HO267 := Aside0.mk (Kd.N_lower ho13 (below_size (zy HB)))
     replace HB := zh HB hb; clear HO0; have HO0 := n0_; clear n0_; clear HO259; have HO259 := n1_; clear n1_; clear HO264; have HO264 := n2_; clear n2_; clear hb ho13
     obtain ⟨Ao14, co14, eo14⟩ := Kd.N_slice HO267.out
     (first | subst eo14 | (injection eo14 with f1_ f2_ f3_; have f4_ := f1_.symm; have f5_ := f3_.symm; clear f1_ f2_ f3_; subst f4_; subst f5_))
     refine hK.out _ _ trivial (fun hHeld => ?_)
     clear hK K
     refine zN 12 ?_
     refine zO 8 (some 13) HT_ (fun K hK => ?_)
     refine goes_ Try.func86 (by kernel_rfl) rfl #[.slice Ao14 y265.length co14] (by rfl) rfl rfl zO1_1 ?_
     with_reducible refine (impl_Clue_86.calls k _ _ y265 t268 _ ?side1 ?side2 A8.out).mono ?_
     (case side1 => repeat (first | exact (Kd.N_reads' HO267.out).2.2 | (with_reducible refine Kd.C_alloc ?_ _) | (with_reducible refine Kd.C_drewN ?_ _) | (with_reducible refine Kd.C_drew ?_)))
     (case side2 => exact (Kd.N_reads' HO267.out).2.1)
     rintro e w15 ⟨v269, rfl, ho0, hb⟩
     refine ⟨_, rfl, ?_⟩
     have n0_ := Aside0.mk (Kd.V_elder' zO1_5 (Kd.R_base ho0) hb)
     have n1_ := Aside0.mk (Kd.V_elder' zO1_3 (Kd.R_base ho0) hb)
     have n2_ := Aside0.mk (Kd.V_elder' zO1_4 (Kd.R_base ho0) hb)
     have n3_ := Aside0.mk (Kd.N_elder' (by (with_reducible repeat (first | apply Kd.N_alloc | apply Kd.N_drewN | apply Kd.N_drew)); exact HO267.out) (Kd.R_base ho0) hb)
     have HO270 := Aside0.mk (Kd.R_lower (Kd.R_newM (M := fun k_ => (w.heap.size ≤ k_)) ho0 (below_size (zy HB)) (fun k_ h_ => h_)) (below_size (zy HB)))
     replace HB := zh HB hb; clear HO0; have HO0 := n0_; clear n0_; clear HO259; have HO259 := n1_; clear n1_; clear HO264; have HO264 := n2_; clear n2_; clear HO267; have HO267 := n3_; clear n3_
     (try clear hb)
     (try clear hb2)
     (try clear hk)
     (try clear hi)
     (try clear ho0)
     refine hK.out _ _ trivial (fun hHeld => ?_)
     clear hK K
     refine zN 13 ?_
     refine zA 9 4 HT_ ?_
     refine done_ (done_of HT_.out (by kernel_rfl)) ?_
     try go_wp2
     go_ret
     exact ⟨_, by first | rfl | (simp [errW_none, errW_some] <;> rfl) | (simp only [← hji5]; first | rfl | (simp [errW_none, errW_some] <;> rfl)) | (simp [*, errW_none, errW_some] <;> rfl), by (with_reducible repeat (first | apply Kd.R_alloc | apply Kd.R_drewN | apply Kd.R_drew)); exact Kd.R_mono HO270.out (fun _ hk => hk.1), zy HB⟩
    ·rw [if_neg c7] at H
     exact absurd H zO1_7
   ·rw [if_neg c6] at H
    exact absurd H zO1_7
  ·rw [if_neg c4] at H
   exact absurd H zO1_7
 ·rw [if_neg c3] at H
  exact absurd H zO1_7


/-! ### impl_HarderPuzzle: function 10 -/
mutual
def impl_HarderPuzzle.j0 : Nat → Bool → Int → List (S43) → Option (Int × (List (S43)) × Bool)
 | 0, _, _, _ => none
 | k + 1, x17, x272000, x272001 => if x17 = true then (some (0, ([] : List (S43)), false)) else ((impl_Clue_50.f x272001).bind fun t275 => (impl_HarderPuzzle.l0 k t275 0 x272000 x272001))
def impl_HarderPuzzle.l0 : Nat → List (S43) → Int → Int → List (S43) → Option (Int × (List (S43)) × Bool)
 | 0, _, _, _, _ => none
 | k + 1, x4, x5, x272000, x272001 => if x5 < (x4.length : Int) then ((impl_without.f k x4 x5).bind fun t278 => ((impl_isSolved.f k x272000 t278).bind fun t281 => (if t281 = true then (impl_HarderPuzzle.l0 k t278 x5 x272000 x272001) else (impl_HarderPuzzle.l0 k x4 (wrap64 (x5 + 1)) x272000 x272001)))) else (some (x272000, x4, true))
end
def impl_HarderPuzzle.f (k : Nat) (a0_0 : Int) (l0_1 : List (S43)) : Option (Int × (List (S43)) × Bool) := (impl_IsPuzzle.f k a0_0 l0_1).bind fun t273 => (if t273 = true then ((impl_isSolved.f k a0_0 l0_1).bind fun t274 => (impl_HarderPuzzle.j0 k (!t274) a0_0 l0_1)) else (impl_HarderPuzzle.j0 k true a0_0 l0_1))
set_option maxHeartbeats 8000000 in
set_option maxRecDepth 100000 in
theorem impl_HarderPuzzle.calls (k : Nat) (a0_0 : Int) (A0_1 : Option Addr) (c0_1 : Nat) (l0_1 : List (S43)) (r1 : Int) (r2 : List (S43)) (r3 : Bool) (w : World) (hr0_1 : Kd.C k43 w A0_1 l0_1.length l0_1) (hc0_1 : l0_1.length ≤ c0_1) (h : impl_HarderPuzzle.f k a0_0 l0_1 = some (r1, r2, r3)) :
  Calls Try.prog 10 #[.agg #[.int .i64 a0_0, .slice A0_1 l0_1.length c0_1]] w fun e w' => ∃ v1_ : Value, e = .returned (.tuple #[.agg #[.int .i64 r1, v1_], .bool r3]) ∧ Kd.R k43 43 w' w.heap.size (fun _ => True) v1_ r2 ∧ Below w.heap.size w w' := by
 have hu28 := Try.underlying28; have HR0_1 := Aside0.mk hr0_1; have HC0_1 := Aside0.mk hc0_1; clear hr0_1 hc0_1
 have HB := Aside0.mk (Below.refl w.heap.size w)
 have H : ((impl_IsPuzzle.f k a0_0 l0_1).bind fun t273 => (if t273 = true then ((impl_isSolved.f k a0_0 l0_1).bind fun t274 => (impl_HarderPuzzle.j0 k (!t274) a0_0 l0_1)) else (impl_HarderPuzzle.j0 k true a0_0 l0_1))) = some (r1, r2, r3) := h
 clear h; have HC2 := Aside0.mk H; clear H
 go_enter Try.func10, Try.ntmps10
 go_upto_region 1 with (first | ((with_reducible refine gate_dst (N := 1) rfl ?_); refine zE 1 #[.int .i64 a0_0, .slice A0_1 l0_1.length c0_1] 28 ?_; intro gb271 hg w3 hbox hb; have BK271 := Aside0.mk (hbox); have GW271 := zg HB hg; have GE271 := GW271; replace HB := zh HB hb; clear hb hbox hg) | ((with_reducible refine gate_dst (N := 2) rfl ?_); refine zE 2 #[.int .i64 0, .slice none 0 0] 28 ?_; intro gb272 hg w4 hbox hb; have BK272 := Aside0.mk (hbox); have GW272 := zg HB hg; have GE272 := GW272; have NB271_272 := zl BK271 hg; have NB272_271 := zr BK271 hg; replace BK271 := zb BK271 hb; replace HB := zh HB hb; clear hb hbox hg))
 (try simp only [Act.put, List.setIfInBounds_toArray, List.set_cons_zero, List.set_cons_succ])
 go_cut [17] (fun v17 wc => ∃ (kq : Nat) (x17_1 : Bool), v17 = .bool x17_1 ∧ Aside0 (impl_HarderPuzzle.j0 kq x17_1 a0_0 l0_1 = some (r1, r2, r3)) ∧ Aside0 (kq ≤ k) ∧ Aside0 (wc.heap[gb271]? = some (.cells #[.int .i64 a0_0, (.slice A0_1 l0_1.length c0_1)] 28 (0, 0))) ∧ Aside0 (wc.heap[gb272]? = some (.cells #[.int .i64 0, (.slice none 0 0)] 28 (0, 0))) ∧ Aside0 (Below w.heap.size w wc))
 case first =>
  have H := HC2.out; clear HC2; replace H := Option.bind_eq_some_iff.mp H; obtain ⟨t273, A50, H⟩ := H; (try dsimp only at H); have A5 := Aside0.mk A50; clear A50
  by_cases c6 : t273 = true
  ·subst c6
   rw [if_pos rfl] at H; replace H := Option.bind_eq_some_iff.mp H; obtain ⟨t274, A70, H⟩ := H
   replace H : (impl_HarderPuzzle.j0 k (!t274) a0_0 l0_1) = some (r1, r2, r3) := H
   have A7 := Aside0.mk A70; clear A70; have H' := Aside0.mk H; clear H; have hnb8 := NB271_272.out; have hnc8 := NB272_271.out
   obtain ⟨_, _, _, _⟩ := zc2 BK271
   go_wp2_with (first | ((with_reducible refine gate_callee (f := 26) rfl ?_); refine zG (some 8) Try.func26 #[.agg #[.int .i64 a0_0, .slice A0_1 l0_1.length c0_1]] ?_; (with_reducible refine (impl_IsPuzzle.calls k a0_0 _ _ l0_1 true _ ?side1 ?side2 A5.out).mono ?_); (case side1 => repeat (first | exact (Kd.C_below HR0_1.out HB.out) | (with_reducible refine Kd.C_alloc ?_ _) | (with_reducible refine Kd.C_drewN ?_ _) | (with_reducible refine Kd.C_drew ?_))); (case side2 => exact HC0_1.out); rintro e w10 ⟨rfl, hb⟩; refine ⟨_, rfl, ?_⟩; replace BK271 := zb BK271 hb; replace BK272 := zb BK272 hb; replace HB := zh HB hb; clear hb; obtain ⟨_, _, _, _⟩ := zc2 BK271) | (go_at_call 49; (with_reducible refine (impl_isSolved.calls k a0_0 _ _ l0_1 t274 _ ?side1 ?side2 A7.out).mono ?_); (case side1 => repeat (first | exact (Kd.C_below HR0_1.out HB.out) | (with_reducible refine Kd.C_alloc ?_ _) | (with_reducible refine Kd.C_drewN ?_ _) | (with_reducible refine Kd.C_drew ?_))); (case side2 => exact HC0_1.out); rintro e w12 ⟨rfl, hb⟩; replace BK271 := zb BK271 hb; replace BK272 := zb BK272 hb; replace HB := zh HB hb; clear hb))
   go_meet
   case rel => exact ⟨_, (!t274), zu, H', ⟨by first | omega | exact Nat.le_refl _⟩, zk BK271, zk BK272, ⟨zy HB⟩⟩
  ·replace c6 := Bool.eq_false_iff.mpr c6
   subst c6; rw [if_neg (show ¬ (false = true) by decide)] at H; have H' := Aside0.mk H; clear H; have hnb13 := NB271_272.out; have hnc13 := NB272_271.out
   obtain ⟨_, _, _, _⟩ := zc2 BK271
   go_wp2_with (first | ((with_reducible refine gate_callee (f := 26) rfl ?_); refine zG (some 8) Try.func26 #[.agg #[.int .i64 a0_0, .slice A0_1 l0_1.length c0_1]] ?_; (with_reducible refine (impl_IsPuzzle.calls k a0_0 _ _ l0_1 false _ ?side1 ?side2 A5.out).mono ?_); (case side1 => repeat (first | exact (Kd.C_below HR0_1.out HB.out) | (with_reducible refine Kd.C_alloc ?_ _) | (with_reducible refine Kd.C_drewN ?_ _) | (with_reducible refine Kd.C_drew ?_))); (case side2 => exact HC0_1.out); rintro e w15 ⟨rfl, hb⟩; refine ⟨_, rfl, ?_⟩; replace BK271 := zb BK271 hb; replace BK272 := zb BK272 hb; replace HB := zh HB hb; clear hb))
   go_meet
   case rel => exact ⟨_, (true), zu, H', ⟨by first | omega | exact Nat.le_refl _⟩, zk BK271, zk BK272, ⟨zy HB⟩⟩
 case rest =>
  clear HC2
  obtain ⟨kq, x17_1, rfl, HA, HJ1, BK271, BK272, HB⟩ := hcut
  cases kq with
  | zero => exact absurd HA.out (by simp [impl_HarderPuzzle.j0])
  | succ kj1 =>
   have H := HA.out; clear HA; simp only [impl_HarderPuzzle.j0] at H
   by_cases c16 : x17_1 = true
   ·subst c16
    rw [if_pos rfl] at H; simp only [Option.some.injEq, Prod.mk.injEq] at H; obtain ⟨rfl, rfl, rfl⟩ := H; have hnb17 := NB272_271.out; have hnc17 := NB271_272.out
    obtain ⟨_, _, _, _⟩ := zc2 BK272
    go_wp2
    refine bodyPost_ret (results_ct rfl _ _ gb272 28 #[.int .i64 0, .slice none 0 0] (0, 0) _ rfl (zw BK272) Try.underlying28 rfl (by kernel_rfl)) rfl ?_
    exact ⟨_, zt, by first | exact Kd.R_nil _ _ _ _ _ | exact Kd.N_nil _ _ _ _ _ | exact Kd.V_nil _ _ _ _ _ | exact Kd.Q_nil _ _ _ _ _ | exact Kd.S_nil _ _ _ _ _, zy HB⟩
   ·replace c16 := Bool.eq_false_iff.mpr c16
    subst c16; rw [if_neg (show ¬ (false = true) by decide)] at H; replace H := Option.bind_eq_some_iff.mp H; obtain ⟨t275, A190, H⟩ := H
    replace H : (impl_HarderPuzzle.l0 kj1 t275 0 a0_0 l0_1) = some (r1, r2, r3) := H
    have A19 := Aside0.mk A190; clear A190; have H' := Aside0.mk H; clear H; have hnb20 := NB271_272.out; have hnc20 := NB272_271.out
    obtain ⟨_, _, _, _⟩ := zc2 BK271
    go_wp2_with (first | ((with_reducible refine gate_callee (f := 50) rfl ?_); refine zG (some 21) Try.func50 #[.slice A0_1 l0_1.length c0_1] ?_; (with_reducible refine (impl_Clue_50.calls _ _ l0_1 t275 _ ?side1 ?side2 A19.out).mono ?_); (case side1 => repeat (first | exact (Kd.C_below HR0_1.out HB.out) | (with_reducible refine Kd.C_alloc ?_ _) | (with_reducible refine Kd.C_drewN ?_ _) | (with_reducible refine Kd.C_drew ?_))); (case side2 => exact HC0_1.out); rintro e w22 ⟨v276, rfl, ho0, hb⟩; refine ⟨_, rfl, ?_⟩; have HO277 := Aside0.mk (Kd.R_lower ho0 (below_size (zy HB))); replace BK271 := zb BK271 hb; replace BK272 := zb BK272 hb; replace HB := zh HB hb; clear hb ho0))
    go_loopg [4, 5] kj1 (fun kq v4 v5 w' => ∃ (x4_2 : List (S43)) (x5_2 : Int), v5 = .int .i64 x5_2 ∧ Aside0 (impl_HarderPuzzle.l0 kq x4_2 x5_2 a0_0 l0_1 = some (r1, r2, r3)) ∧ Aside0 (kq ≤ kj1) ∧ Aside0 (Kd.R k43 43 w' w.heap.size (fun _ => True) v4 x4_2) ∧ Aside0 (w'.heap[gb271]? = some (.cells #[.int .i64 a0_0, (.slice A0_1 l0_1.length c0_1)] 28 (0, 0))) ∧ Aside0 (w'.heap[gb272]? = some (.cells #[.int .i64 0, (.slice none 0 0)] 28 (0, 0))) ∧ Aside0 (Below w.heap.size w w'))
    case atStart => exact ⟨(t275), (0), zu, H', ⟨Nat.le_refl _⟩, zp HO277, zk BK271, zk BK272, ⟨zy HB⟩⟩
    case round =>
     clear H'
     obtain ⟨x4_2, x5_2, rfl, HA, HK2, HO_4, BK271, BK272, HB⟩ := hrel
     cases gk with
     | zero => exact absurd HA.out (by simp [impl_HarderPuzzle.l0])
     | succ k2 =>
      have H := HA.out; clear HA; simp only [impl_HarderPuzzle.l0] at H
      by_cases c23 : x5_2 < (x4_2.length : Int)
      ·rw [if_pos c23] at H
       have c23b0 : decide (x5_2 < (x4_2.length : Int)) = true := decide_eq_true c23; clear c23; replace H := Option.bind_eq_some_iff.mp H; obtain ⟨t278, A240, H⟩ := H; (try dsimp only at H); have A24 := Aside0.mk A240; clear A240; replace H := Option.bind_eq_some_iff.mp H; obtain ⟨t281, A250, H⟩ := H
       replace H : (if t281 = true then (impl_HarderPuzzle.l0 k2 t278 x5_2 a0_0 l0_1) else (impl_HarderPuzzle.l0 k2 x4_2 (wrap64 (x5_2 + 1)) a0_0 l0_1)) = some (r1, r2, r3) := H
       have A25 := Aside0.mk A250; clear A250
       by_cases c26 : t281 = true
       ·subst c26
        rw [if_pos rfl] at H; have H' := Aside0.mk H; clear H
        obtain ⟨Ao27, co27, eo27⟩ := Kd.R_slice HO_4.out
        subst eo27
        go_wp2_with (first | ((with_reducible refine gate_callee (f := 51) rfl ?_); refine zG (some 28) Try.func51 #[.slice Ao27 x4_2.length co27, .int .i64 x5_2] ?_; (with_reducible refine (impl_without.calls k2 (fun k_ => some k_ = (.slice Ao27 x4_2.length co27 : Value).ownBlock) _ _ x4_2 x5_2 t278 _ ?side1 A24.out).mono ?_); (case side1 => exact Kd.R_V (Kd.R_tight rfl (Kd.R_types (Kd.R_types (HO_4.out) BK271.out (by decide)) BK272.out (by decide)))); rintro e w28 ⟨v279, rfl, ho0, hb⟩; refine ⟨_, rfl, ?_⟩; have n0_ := Aside0.mk (Kd.R_elder' (zs HO_4) (Kd.R_base ho0) hb); have HO280 := Aside0.mk (Kd.R_lower (Kd.R_new' (Kd.R_mono (ok' := fun k_ => True) ho0 (fun _ hk_ => trivial)) (Kd.R_lt (zs HO_4))) (below_size (zy HB))); replace BK271 := zb BK271 hb; replace BK272 := zb BK272 hb; replace HB := zh HB hb; clear HO_4; have HO_4 := n0_; clear n0_; clear hb ho0; have hnb29 := NB271_272.out; have hnc29 := NB272_271.out; obtain ⟨_, _, _, _⟩ := zc2 BK271; obtain ⟨Ao31, co31, eo31⟩ := Kd.R_slice HO280.out; subst eo31) | ((with_reducible refine gate_callee (f := 49) rfl ?_); refine zG (some 32) Try.func49 #[.int .i64 a0_0, .slice Ao31 t278.length co31] ?_; (with_reducible refine (impl_isSolved.calls k2 a0_0 _ _ t278 true _ ?side1 ?side2 A25.out).mono ?_); (case side1 => repeat (first | exact (Kd.R_reads' HO280.out).2.2 | (with_reducible refine Kd.C_alloc ?_ _) | (with_reducible refine Kd.C_drewN ?_ _) | (with_reducible refine Kd.C_drew ?_))); (case side2 => exact (Kd.R_reads' HO280.out).2.1); rintro e w32 ⟨rfl, hb⟩; refine ⟨_, rfl, ?_⟩; replace HO_4 := zo HO_4 hb; replace HO280 := zo HO280 hb; replace BK271 := zb BK271 hb; replace BK272 := zb BK272 hb; replace HB := zh HB hb; clear hb))
        go_roundg k2
        case measure => have := HJ1.out; have := HK2.out; omega
        case rel => exact ⟨(t278), (x5_2), zu, H', ⟨by have := HJ1.out; have := HK2.out; omega⟩, ⟨by (with_reducible repeat (first | apply Kd.R_alloc | apply Kd.R_drewN | apply Kd.R_drew)); exact Kd.R_mono HO280.out (fun _ hk => trivial)⟩, zk BK271, zk BK272, ⟨zy HB⟩⟩
       ·replace c26 := Bool.eq_false_iff.mpr c26
        subst c26; rw [if_neg (show ¬ (false = true) by decide)] at H; have H' := Aside0.mk H; clear H
        obtain ⟨Ao33, co33, eo33⟩ := Kd.R_slice HO_4.out
        subst eo33
        go_wp2_with (first | ((with_reducible refine gate_callee (f := 51) rfl ?_); refine zG (some 28) Try.func51 #[.slice Ao33 x4_2.length co33, .int .i64 x5_2] ?_; (with_reducible refine (impl_without.calls k2 (fun k_ => some k_ = (.slice Ao33 x4_2.length co33 : Value).ownBlock) _ _ x4_2 x5_2 t278 _ ?side1 A24.out).mono ?_); (case side1 => exact Kd.R_V (Kd.R_tight rfl (Kd.R_types (Kd.R_types (HO_4.out) BK271.out (by decide)) BK272.out (by decide)))); rintro e w34 ⟨v279, rfl, ho0, hb⟩; refine ⟨_, rfl, ?_⟩; have n0_ := Aside0.mk (Kd.R_elder' (zs HO_4) (Kd.R_base ho0) hb); have HO280 := Aside0.mk (Kd.R_lower (Kd.R_new' (Kd.R_mono (ok' := fun k_ => True) ho0 (fun _ hk_ => trivial)) (Kd.R_lt (zs HO_4))) (below_size (zy HB))); replace BK271 := zb BK271 hb; replace BK272 := zb BK272 hb; replace HB := zh HB hb; clear HO_4; have HO_4 := n0_; clear n0_; clear hb ho0; have hnb35 := NB271_272.out; have hnc35 := NB272_271.out; obtain ⟨_, _, _, _⟩ := zc2 BK271; obtain ⟨Ao37, co37, eo37⟩ := Kd.R_slice HO280.out; subst eo37) | ((with_reducible refine gate_callee (f := 49) rfl ?_); refine zG (some 32) Try.func49 #[.int .i64 a0_0, .slice Ao37 t278.length co37] ?_; (with_reducible refine (impl_isSolved.calls k2 a0_0 _ _ t278 false _ ?side1 ?side2 A25.out).mono ?_); (case side1 => repeat (first | exact (Kd.R_reads' HO280.out).2.2 | (with_reducible refine Kd.C_alloc ?_ _) | (with_reducible refine Kd.C_drewN ?_ _) | (with_reducible refine Kd.C_drew ?_))); (case side2 => exact (Kd.R_reads' HO280.out).2.1); rintro e w38 ⟨rfl, hb⟩; refine ⟨_, rfl, ?_⟩; replace HO_4 := zo HO_4 hb; replace HO280 := zo HO280 hb; replace BK271 := zb BK271 hb; replace BK272 := zb BK272 hb; replace HB := zh HB hb; clear hb))
        go_roundg k2
        case measure => have := HJ1.out; have := HK2.out; omega
        case rel => exact ⟨(x4_2), (wrap64 (x5_2 + 1)), zu, H', ⟨by have := HJ1.out; have := HK2.out; omega⟩, ⟨by (with_reducible repeat (first | apply Kd.R_alloc | apply Kd.R_drewN | apply Kd.R_drew)); exact Kd.R_mono HO_4.out (fun _ hk => trivial)⟩, zk BK271, zk BK272, ⟨zy HB⟩⟩
      ·rw [if_neg c23] at H
       have c23b0 : decide (x5_2 < (x4_2.length : Int)) = false := decide_eq_false c23; clear c23; simp only [Option.some.injEq, Prod.mk.injEq] at H; obtain ⟨rfl, rfl, rfl⟩ := H
       obtain ⟨Ao39, co39, eo39⟩ := Kd.R_slice HO_4.out
       subst eo39; have hnb40 := NB271_272.out; have hnc40 := NB272_271.out
       obtain ⟨_, _, _, _⟩ := zc2 BK271
       obtain ⟨_, _, _, _⟩ := zc2 BK272
       go_wp2
       refine bodyPost_ret (results_ct rfl _ _ gb272 28 #[.int .i64 a0_0, .slice Ao39 x4_2.length co39] (0, 0) _ rfl (zw BK272) Try.underlying28 rfl (by kernel_rfl)) rfl ?_
       exact ⟨_, zt, by (with_reducible repeat (first | apply Kd.R_alloc | apply Kd.R_drewN | apply Kd.R_drew)); exact Kd.R_mono (Kd.R_far (p := ⟨gb272, 1, none⟩) (Kd.R_far (p := ⟨gb272, 0, none⟩) (Kd.R_types HO_4.out BK272.out (by decide)) (fun _ hk => hk.2) (.int .i64 a0_0)) (fun _ hk => hk.2) (.slice Ao39 x4_2.length co39)) (fun _ hk => trivial), zy HB⟩


/-! ### impl_Solutions: function 28 -/
def impl_Solutions.f (k : Nat) (a0_0 : Int) (l0_1 : List (S43)) : Option ((List (S41)) × Bool) := (impl_IsPuzzle.f k a0_0 l0_1).bind fun t363 => (if t363 = true then ((impl_solutions.f k a0_0 l0_1).bind fun t364 => (some (t364, true))) else (some (([] : List (S41)), false)))
set_option maxHeartbeats 8000000 in
set_option maxRecDepth 100000 in
theorem impl_Solutions.calls (k : Nat) (a0_0 : Int) (A0_1 : Option Addr) (c0_1 : Nat) (l0_1 : List (S43)) (r1 : List (S41)) (r2 : Bool) (w : World) (hr0_1 : Kd.C k43 w A0_1 l0_1.length l0_1) (hc0_1 : l0_1.length ≤ c0_1) (h : impl_Solutions.f k a0_0 l0_1 = some (r1, r2)) :
  Calls Try.prog 28 #[.agg #[.int .i64 a0_0, .slice A0_1 l0_1.length c0_1]] w fun e w' => ∃ v0_ : Value, e = .returned (.tuple #[v0_, .bool r2]) ∧ Kd.R k41 41 w' w.heap.size (fun _ => True) v0_ r1 ∧ Below w.heap.size w w' := by
 have hu28 := Try.underlying28; have HR0_1 := Aside0.mk hr0_1; have HC0_1 := Aside0.mk hc0_1; clear hr0_1 hc0_1
 have HB := Aside0.mk (Below.refl w.heap.size w)
 have H : ((impl_IsPuzzle.f k a0_0 l0_1).bind fun t363 => (if t363 = true then ((impl_solutions.f k a0_0 l0_1).bind fun t364 => (some (t364, true))) else (some (([] : List (S41)), false)))) = some (r1, r2) := h
 clear h; replace H := Option.bind_eq_some_iff.mp H; obtain ⟨t363, A20, H⟩ := H
 replace H : (if t363 = true then ((impl_solutions.f k a0_0 l0_1).bind fun t364 => (some (t364, true))) else (some (([] : List (S41)), false))) = some (r1, r2) := H
 have A2 := Aside0.mk A20; clear A20
 by_cases c3 : t363 = true
 ·subst c3
  rw [if_pos rfl] at H; replace H := Option.bind_eq_some_iff.mp H; obtain ⟨t364, A40, H⟩ := H
  replace H : (some (t364, true)) = some (r1, r2) := H
  have A4 := Aside0.mk A40; clear A40; simp only [Option.some.injEq, Prod.mk.injEq] at H; obtain ⟨rfl, rfl⟩ := H
  go_enter Try.func28, Try.ntmps28
  go_wp2_with (first | ((with_reducible refine gate_dst (N := 1) rfl ?_); refine zE 1 #[.int .i64 a0_0, .slice A0_1 l0_1.length c0_1] 28 ?_; intro gb362 hg w5 hbox hb; have BK362 := Aside0.mk (hbox); have GW362 := zg HB hg; have GE362 := GW362; replace HB := zh HB hb; clear hb hbox hg; obtain ⟨_, _, _, _⟩ := zc2 BK362) | ((with_reducible refine gate_callee (f := 26) rfl ?_); refine zG (some 5) Try.func26 #[.agg #[.int .i64 a0_0, .slice A0_1 l0_1.length c0_1]] ?_; (with_reducible refine (impl_IsPuzzle.calls k a0_0 _ _ l0_1 true _ ?side1 ?side2 A2.out).mono ?_); (case side1 => repeat (first | exact (Kd.C_below HR0_1.out HB.out) | (with_reducible refine Kd.C_alloc ?_ _) | (with_reducible refine Kd.C_drewN ?_ _) | (with_reducible refine Kd.C_drew ?_))); (case side2 => exact HC0_1.out); rintro e w7 ⟨rfl, hb⟩; refine ⟨_, rfl, ?_⟩; replace BK362 := zb BK362 hb; replace HB := zh HB hb; clear hb; obtain ⟨_, _, _, _⟩ := zc2 BK362) | ((with_reducible refine gate_callee (f := 57) rfl ?_); refine zG (some 11) Try.func57 #[.int .i64 a0_0, .slice A0_1 l0_1.length c0_1] ?_; (with_reducible refine (impl_solutions.calls k a0_0 _ _ l0_1 t364 _ ?side1 ?side2 A4.out).mono ?_); (case side1 => repeat (first | exact (Kd.C_below HR0_1.out HB.out) | (with_reducible refine Kd.C_alloc ?_ _) | (with_reducible refine Kd.C_drewN ?_ _) | (with_reducible refine Kd.C_drew ?_))); (case side2 => exact HC0_1.out); rintro e w9 ⟨v365, rfl, ho0, hb⟩; refine ⟨_, rfl, ?_⟩; have HO366 := Aside0.mk (Kd.R_lower ho0 (below_size (zy HB))); replace BK362 := zb BK362 hb; replace HB := zh HB hb; clear hb ho0))
  go_ret2
  exact ⟨_, zt, by (with_reducible repeat (first | apply Kd.R_alloc | apply Kd.R_drewN | apply Kd.R_drew)); exact HO366.out, zy HB⟩
 ·replace c3 := Bool.eq_false_iff.mpr c3
  subst c3; rw [if_neg (show ¬ (false = true) by decide)] at H; simp only [Option.some.injEq, Prod.mk.injEq] at H; obtain ⟨rfl, rfl⟩ := H
  go_enter Try.func28, Try.ntmps28
  go_wp2_with (first | ((with_reducible refine gate_dst (N := 1) rfl ?_); refine zE 1 #[.int .i64 a0_0, .slice A0_1 l0_1.length c0_1] 28 ?_; intro gb362 hg w10 hbox hb; have BK362 := Aside0.mk (hbox); have GW362 := zg HB hg; have GE362 := GW362; replace HB := zh HB hb; clear hb hbox hg; obtain ⟨_, _, _, _⟩ := zc2 BK362) | ((with_reducible refine gate_callee (f := 26) rfl ?_); refine zG (some 5) Try.func26 #[.agg #[.int .i64 a0_0, .slice A0_1 l0_1.length c0_1]] ?_; (with_reducible refine (impl_IsPuzzle.calls k a0_0 _ _ l0_1 false _ ?side1 ?side2 A2.out).mono ?_); (case side1 => repeat (first | exact (Kd.C_below HR0_1.out HB.out) | (with_reducible refine Kd.C_alloc ?_ _) | (with_reducible refine Kd.C_drewN ?_ _) | (with_reducible refine Kd.C_drew ?_))); (case side2 => exact HC0_1.out); rintro e w12 ⟨rfl, hb⟩; refine ⟨_, rfl, ?_⟩; replace BK362 := zb BK362 hb; replace HB := zh HB hb; clear hb))
  go_ret2
  exact ⟨_, zt, by first | exact Kd.R_nil _ _ _ _ _ | exact Kd.N_nil _ _ _ _ _ | exact Kd.V_nil _ _ _ _ _ | exact Kd.Q_nil _ _ _ _ _ | exact Kd.S_nil _ _ _ _ _, zy HB⟩


/-! ### impl_CountSolutions: function 56 -/
def impl_CountSolutions.f (k : Nat) (a0_0 : Int) (l0_1 : List (S43)) : Option (Int × Bool) := (impl_Solutions.f k a0_0 l0_1).bind fun bt368 => (some ((bt368.1.length : Int), bt368.2))
set_option maxHeartbeats 8000000 in
set_option maxRecDepth 100000 in
theorem impl_CountSolutions.calls (k : Nat) (a0_0 : Int) (A0_1 : Option Addr) (c0_1 : Nat) (l0_1 : List (S43)) (r1 : Int) (r2 : Bool) (w : World) (hr0_1 : Kd.C k43 w A0_1 l0_1.length l0_1) (hc0_1 : l0_1.length ≤ c0_1) (h : impl_CountSolutions.f k a0_0 l0_1 = some (r1, r2)) :
  Calls Try.prog 56 #[.agg #[.int .i64 a0_0, .slice A0_1 l0_1.length c0_1]] w fun e w' => e = .returned (.tuple #[.int .i64 r1, .bool r2]) ∧ Below w.heap.size w w' := by
 have hu28 := Try.underlying28; have HR0_1 := Aside0.mk hr0_1; have HC0_1 := Aside0.mk hc0_1; clear hr0_1 hc0_1
 have HB := Aside0.mk (Below.refl w.heap.size w)
 have H : ((impl_Solutions.f k a0_0 l0_1).bind fun bt368 => (some ((bt368.1.length : Int), bt368.2))) = some (r1, r2) := h
 clear h; replace H := Option.bind_eq_some_iff.mp H; obtain ⟨⟨t368, t371⟩, A20, H⟩ := H
 replace H : (some ((t368.length : Int), t371)) = some (r1, r2) := H
 have A2 := Aside0.mk A20; clear A20; simp only [Option.some.injEq, Prod.mk.injEq] at H; obtain ⟨rfl, rfl⟩ := H
 go_enter Try.func56, Try.ntmps56
 go_wp2_with (first | ((with_reducible refine gate_dst (N := 1) rfl ?_); refine zE 1 #[.int .i64 a0_0, .slice A0_1 l0_1.length c0_1] 28 ?_; intro gb367 hg w3 hbox hb; have BK367 := Aside0.mk (hbox); have GW367 := zg HB hg; have GE367 := GW367; replace HB := zh HB hb; clear hb hbox hg; obtain ⟨_, _, _, _⟩ := zc2 BK367) | ((with_reducible refine gate_callee (f := 28) rfl ?_); refine zG (some 8) Try.func28 #[.agg #[.int .i64 a0_0, .slice A0_1 l0_1.length c0_1]] ?_; (with_reducible refine (impl_Solutions.calls k a0_0 _ _ l0_1 t368 t371 _ ?side1 ?side2 A2.out).mono ?_); (case side1 => repeat (first | exact (Kd.C_below HR0_1.out HB.out) | (with_reducible refine Kd.C_alloc ?_ _) | (with_reducible refine Kd.C_drewN ?_ _) | (with_reducible refine Kd.C_drew ?_))); (case side2 => exact HC0_1.out); rintro e w5 ⟨v369, rfl, ho0, hb⟩; refine ⟨_, rfl, ?_⟩; have HO370 := Aside0.mk (Kd.R_lower ho0 (below_size (zy HB))); replace BK367 := zb BK367 hb; replace HB := zh HB hb; clear hb ho0; obtain ⟨Ao6, co6, eo6⟩ := Kd.R_slice HO370.out; subst eo6))
 go_ret2
 exact ⟨zt, zy HB⟩


/-! ### impl_NeedlessClues: function 15 -/
def impl_NeedlessClues.l0 : Nat → Int → List Int → Int → Int → Int → List (S43) → Option (List Int × Bool)
 | 0, _, _, _, _, _, _ => none
 | k + 1, x4, x6, x18, x19, x373000, x373001 => if x19 < x18 then ((impl_without.f k x373001 x19).bind fun t378 => ((impl_solutions.f k x373000 t378).bind fun t381 => (if (t381.length : Int) = x4 then (if x6.length < 17592186044416 then (impl_NeedlessClues.l0 k x4 (x6 ++ [x19]) x18 (wrap64 (x19 + 1)) x373000 x373001) else (none)) else (impl_NeedlessClues.l0 k x4 x6 x18 (wrap64 (x19 + 1)) x373000 x373001)))) else (some (x6, true))
def impl_NeedlessClues.f (k : Nat) (a0_0 : Int) (l0_1 : List (S43)) : Option (List Int × Bool) := (impl_CountSolutions.f k a0_0 l0_1).bind fun bt373 => (if bt373.2 = true then (impl_NeedlessClues.l0 k bt373.1 (([] : List Int)) (l0_1.length : Int) 0 a0_0 l0_1) else (some (([] : List Int), false)))
def impl_NeedlessClues.T8 : Bool × List (List Nat × List Nat) := (true, [([], []), ([0], [0]), ([], []), ([2], [2]), ([], []), ([3, 4], [3, 4]), ([1, 5, 5], [1, 5]), ([6], [6]), ([], []), ([7, 8], [7, 8])])
def impl_NeedlessClues.B8 : List Nat := [0, 1, 0, 4, 0, 28, 63, 127, 0, 511]
theorem impl_NeedlessClues.tab8 : rtab .any (opsOf Try.f15 8) = impl_NeedlessClues.T8 := by kernel_rfl
theorem impl_NeedlessClues.bits8 : waitsOk impl_NeedlessClues.T8.2 impl_NeedlessClues.B8 = true := by kernel_rfl
set_option maxHeartbeats 8000000 in
set_option maxRecDepth 100000 in
theorem impl_NeedlessClues.calls (k : Nat) (a0_0 : Int) (A0_1 : Option Addr) (c0_1 : Nat) (l0_1 : List (S43)) (r1 : List Int) (r2 : Bool) (w : World) (hr0_1 : Kd.C k43 w A0_1 l0_1.length l0_1) (hc0_1 : l0_1.length ≤ c0_1) (h : impl_NeedlessClues.f k a0_0 l0_1 = some (r1, r2)) :
  Calls Try.prog 15 #[.agg #[.int .i64 a0_0, .slice A0_1 l0_1.length c0_1]] w fun e w' => ∃ v0_ : Value, e = .returned (.tuple #[v0_, .bool r2]) ∧ Kd.R (Kd.int .i64) 3 w' w.heap.size (fun _ => True) v0_ r1 ∧ Below w.heap.size w w' := by
 have hu28 := Try.underlying28; have HR0_1 := Aside0.mk hr0_1; have HC0_1 := Aside0.mk hc0_1; clear hr0_1 hc0_1
 have HB := Aside0.mk (Below.refl w.heap.size w)
 have H : ((impl_CountSolutions.f k a0_0 l0_1).bind fun bt373 => (if bt373.2 = true then (impl_NeedlessClues.l0 k bt373.1 (([] : List Int)) (l0_1.length : Int) 0 a0_0 l0_1) else (some (([] : List Int), false)))) = some (r1, r2) := h
 clear h; replace H := Option.bind_eq_some_iff.mp H; obtain ⟨⟨t373, t374⟩, A20, H⟩ := H
 replace H : (if t374 = true then (impl_NeedlessClues.l0 k t373 (([] : List Int)) (l0_1.length : Int) 0 a0_0 l0_1) else (some (([] : List Int), false))) = some (r1, r2) := H
 have A2 := Aside0.mk A20; clear A20
 by_cases c3 : t374 = true
 ·subst c3
  rw [if_pos rfl] at H
  obtain ⟨y375, hy375⟩ : ∃ y_ : List Int, y_ = (([] : List Int)) := ⟨_, rfl⟩
  replace H : (impl_NeedlessClues.l0 k t373 y375 (l0_1.length : Int) 0 a0_0 l0_1) = some (r1, r2) := by first | (rw [hy375]; with_reducible exact H) | (have H2_ := (Option.bind_some _ _).symm.trans H; rw [hy375]; with_reducible exact H2_) | (have H2_ := (Option.bind_some _ _).symm.trans H; with_reducible exact H2_) | with_reducible exact H | (rw [hy375]; exact H) | exact H
  have Ny375 := Aside0.mk hy375; clear hy375; have H' := Aside0.mk H; clear H
  go_enter Try.func15, Try.ntmps15
  go_wp2_with (first | ((with_reducible refine gate_dst (N := 1) rfl ?_); refine zE 1 #[.int .i64 a0_0, .slice A0_1 l0_1.length c0_1] 28 ?_; intro gb372 hg w4 hbox hb; have BK372 := Aside0.mk (hbox); have GW372 := zg HB hg; have GE372 := GW372; replace HB := zh HB hb; clear hb hbox hg; obtain ⟨_, _, _, _⟩ := zc2 BK372) | ((with_reducible refine gate_callee (f := 56) rfl ?_); refine zG (some 10) Try.func56 #[.agg #[.int .i64 a0_0, .slice A0_1 l0_1.length c0_1]] ?_; (with_reducible refine (impl_CountSolutions.calls k a0_0 _ _ l0_1 t373 true _ ?side1 ?side2 A2.out).mono ?_); (case side1 => repeat (first | exact (Kd.C_below HR0_1.out HB.out) | (with_reducible refine Kd.C_alloc ?_ _) | (with_reducible refine Kd.C_drewN ?_ _) | (with_reducible refine Kd.C_drew ?_))); (case side2 => exact HC0_1.out); rintro e w6 ⟨rfl, hb⟩; refine ⟨_, rfl, ?_⟩; replace BK372 := zb BK372 hb; replace HB := zh HB hb; clear hb) | ((with_reducible refine gate_dst (N := 15) rfl ?_); refine Kd.R_lit (Kd.int .i64) _ 3 ?hg (N := 15) ?hd (xs := ([] : List Int)) (inner := []) (ok := fun _ => True) (okp := fun _ => True) ?hr ?hp (fun _ hk => hk) trivial (Below.refl _ _) (Nat.le_refl _) zO1_7 ?_; (case hd => rfl); (case hg => rfl); (case hr => first | (go_simp; done) | (go_simp; rfl)); (case hp => exact (Reps.none _ _)); intro v376 w7 ho8 hb hg_ hnew_; clear hg_ hnew_; (first | rw [← Ny375.out] at ho8 | (simp only [Int.reduceToNat] at ho8; rw [← Ny375.out] at ho8)); have HO377 := Aside0.mk (Kd.R_lower ho8 (below_size (zy HB))); replace BK372 := zb BK372 hb; replace HB := zh HB hb; clear hb ho8; obtain ⟨_, _, _, _⟩ := zc2 BK372))
  go_loopg [6, 19] k (fun kq v6 v19 w' => ∃ (x6_1 : List Int) (x19_1 : Int), v19 = .int .i64 x19_1 ∧ Aside0 (impl_NeedlessClues.l0 kq t373 x6_1 (l0_1.length : Int) x19_1 a0_0 l0_1 = some (r1, r2)) ∧ Aside0 (kq ≤ k) ∧ Aside0 (Kd.R (Kd.int .i64) 3 w' w.heap.size (fun _ => True) v6 x6_1) ∧ Aside0 (w'.heap[gb372]? = some (.cells #[.int .i64 a0_0, (.slice A0_1 l0_1.length c0_1)] 28 (0, 0))) ∧ Aside0 (Below w.heap.size w w'))
  case atStart => exact ⟨(y375), (0), zu, H', ⟨Nat.le_refl _⟩, zp HO377, zk BK372, ⟨zy HB⟩⟩
  case round =>
   clear H'
   obtain ⟨x6_1, x19_1, rfl, HA, HK1, HO_6, BK372, HB⟩ := hrel
   cases gk with
   | zero => exact absurd HA.out (by simp [impl_NeedlessClues.l0])
   | succ k1 =>
    have H := HA.out; clear HA; simp only [impl_NeedlessClues.l0] at H
    by_cases c10 : x19_1 < (l0_1.length : Int)
    ·rw [if_pos c10] at H
     have c10b0 : decide (x19_1 < (l0_1.length : Int)) = true := decide_eq_true c10; clear c10; replace H := Option.bind_eq_some_iff.mp H; obtain ⟨t378, A110, H⟩ := H; (try dsimp only at H); have A11 := Aside0.mk A110; clear A110; replace H := Option.bind_eq_some_iff.mp H; obtain ⟨t381, A120, H⟩ := H; (try dsimp only at H); have A12 := Aside0.mk A120; clear A120
     by_cases c13 : (t381.length : Int) = t373
     ·rw [if_pos c13] at H
      have c13b0 : ((t381.length : Int) == t373) = true := beq_iff_eq.mpr c13
      have c13b1 : ((t381.length : Int) != t373) = false := bne_eq_false_iff_eq.mpr c13
      clear c13
      by_cases c14 : x6_1.length < 17592186044416
      ·rw [if_pos c14] at H
       have LMc14 := Aside0.mk c14; clear c14
       obtain ⟨y384, hy384⟩ : ∃ y_ : List Int, y_ = (x6_1 ++ [x19_1]) := ⟨_, rfl⟩
       replace H : (impl_NeedlessClues.l0 k1 t373 y384 (l0_1.length : Int) (wrap64 (x19_1 + 1)) a0_0 l0_1) = some (r1, r2) := by first | (rw [hy384]; with_reducible exact H) | (have H2_ := (Option.bind_some _ _).symm.trans H; rw [hy384]; with_reducible exact H2_) | (have H2_ := (Option.bind_some _ _).symm.trans H; with_reducible exact H2_) | with_reducible exact H | (rw [hy384]; exact H) | exact H
       have Ny384 := Aside0.mk hy384; clear hy384; have H' := Aside0.mk H; clear H
       try go_wp2
       replace HO_6 := Aside0.mk (Kd.R_drew HO_6.out); replace BK372 := Aside0.mk (blk_drew BK372.out); replace HB := Aside0.mk (below_drew1 HB.out)
       refine start_ (n := 10) (S := fun w' => w'.cell? ⟨gb372, 0, none⟩ = some (.int .i64 a0_0) ∧ w'.cell? ⟨gb372, 1, none⟩ = some (.slice A0_1 l0_1.length c0_1)) (ds := []) #[false, false, false, false, false, false, false, false, false, false] (by kernel_rfl) rfl rfl ⟨(blk_cell BK372.out 0).trans rfl, (blk_cell BK372.out 1).trans rfl⟩ (fun hHeld => ?_); refine with_tabW impl_NeedlessClues.tab8 impl_NeedlessClues.bits8 (fun HT_ HW_ => ?_)
       generalize wr.drew = w15 at HO_6 BK372 HB hHeld ⊢
       refine zA 0 22 HT_ ?_
       refine zA 2 24 HT_ ?_
       refine zA 4 26 HT_ ?_
       refine zA 8 30 HT_ ?_
       refine zT 1 23 HT_ HW_ hHeld ?_
       refine zT 3 25 HT_ HW_ hHeld ?_
       refine zO 5 (some 27) HT_ (fun K hK => ?_)
       refine goes_ Try.func51 (by kernel_rfl) rfl #[.slice A0_1 l0_1.length c0_1, .int .i64 x19_1] (by rfl) rfl rfl zO1_1 ?_
       with_reducible refine (impl_without.calls k1 (fun k_ => k_ < w.heap.size) _ _ l0_1 x19_1 t378 _ ?side1 A11.out).mono ?_
       (case side1 => exact Kd.V_mk HC0_1.out (Kd.F_below (Kd.C_F k43_heap HR0_1.out) (zy HB)))
       rintro e w16 ⟨v379, rfl, ho0, hb⟩
       refine ⟨_, rfl, ?_⟩
       have HO380 := Aside0.mk (Kd.R_lower (Kd.R_mono (ok' := fun k_ => True) ho0 (fun _ hk_ => trivial)) (below_size (zy HB)))
       replace HO_6 := zo HO_6 hb; replace BK372 := zb BK372 hb; replace HB := zh HB hb
       (try clear hb)
       (try clear hb2)
       (try clear hk)
       (try clear hi)
       (try clear ho0)
       obtain ⟨Ao17, co17, eo17⟩ := Kd.R_slice HO380.out
       (first | subst eo17 | (injection eo17 with f1_ f2_ f3_; have f4_ := f1_.symm; have f5_ := f3_.symm; clear f1_ f2_ f3_; subst f4_; subst f5_))
       refine hK.out _ _ ⟨(blk_cell BK372.out 0).trans rfl, (blk_cell BK372.out 1).trans rfl⟩ (fun hHeld => ?_)
       clear hK K
       refine zN 27 ?_
       refine zO 6 (some 28) HT_ (fun K hK => ?_)
       refine goes_ Try.func57 (by kernel_rfl) rfl #[.int .i64 a0_0, .slice Ao17 t378.length co17] (by rfl) rfl rfl zO1_1 ?_
       with_reducible refine (impl_solutions.calls k1 a0_0 _ _ t378 t381 _ ?side1 ?side2 A12.out).mono ?_
       (case side1 => repeat (first | exact (Kd.R_reads' HO380.out).2.2 | (with_reducible refine Kd.C_alloc ?_ _) | (with_reducible refine Kd.C_drewN ?_ _) | (with_reducible refine Kd.C_drew ?_)))
       (case side2 => exact (Kd.R_reads' HO380.out).2.1)
       rintro e w18 ⟨v382, rfl, ho0, hb⟩
       refine ⟨_, rfl, ?_⟩
       have HO383 := Aside0.mk (Kd.R_lower ho0 (below_size (zy HB)))
       replace HO_6 := zo HO_6 hb; replace HO380 := zo HO380 hb; replace BK372 := zb BK372 hb; replace HB := zh HB hb
       (try clear hb)
       (try clear hb2)
       (try clear hk)
       (try clear hi)
       (try clear ho0)
       obtain ⟨Ao19, co19, eo19⟩ := Kd.R_slice HO383.out
       (first | subst eo19 | (injection eo19 with f1_ f2_ f3_; have f4_ := f1_.symm; have f5_ := f3_.symm; clear f1_ f2_ f3_; subst f4_; subst f5_))
       refine hK.out _ _ ⟨(blk_cell BK372.out 0).trans rfl, (blk_cell BK372.out 1).trans rfl⟩ (fun hHeld => ?_)
       clear hK K
       refine zN 28 ?_
       refine zA 7 29 HT_ ?_
       refine zA 9 31 HT_ ?_
       refine done_ (done_of HT_.out (by kernel_rfl)) ?_
       try go_wp2_with (first | ((with_reducible refine gate_builtin (b := .append) (xs := #[.tmp 32, .tmp 34]) rfl ?_); at_builtin; refine Kd.R_append (Kd.int .i64) (w0 := w) w.heap.size rfl (.tmp 32) (.tmp 34) 35 3 (.int .i64 0) 8 rfl Try.underlying35 info3 rfl (by decide) (by omega) u6 x6_1 x19_1 [.int .i64 x19_1] (fun _ => True) (fun _ => False) rfl rfl ?aP (fun _ hk => hk.elim) ?aF ?aO ?aB ?aS ?aL ?_; (case aP => exact rfl); (case aB => exact (zy HB)); (case aF => exact (fun _ _ => trivial)); (case aO => exact (zs HO_6)); (case aS => exact (below_size (zy HB))); (case aL => have := LMc14.out; omega); intro v385 w20 ho hb hg hat; rw [← Ny384.out] at ho; have n0_ := Aside0.mk (blk_grown (zq BK372) hg (Kd.R_ne HO_6.out BK372.out (by decide))); have n1_ := Aside0.mk (Kd.R_over' (zs HO380) (Kd.R_typed (zs HO_6)) (by decide) hg); have n2_ := Aside0.mk (Kd.R_over' (zs HO383) (Kd.R_typed (zs HO_6)) (by decide) hg); have HO386 := Aside0.mk (ho); replace HB := Aside0.mk hb; clear HO_6; clear BK372; have BK372 := n0_; clear n0_; clear HO380; have HO380 := n1_; clear n1_; clear HO383; have HO383 := n2_; clear n2_; clear ho hb hg hat))
       go_roundg k1
       case measure => have := HK1.out; omega
       case rel => exact ⟨(y384), (wrap64 (x19_1 + 1)), zu, H', ⟨by have := HK1.out; omega⟩, zp HO386, zk BK372, ⟨zy HB⟩⟩
      ·rw [if_neg c14] at H
       exact absurd H zO1_7
     ·rw [if_neg c13] at H
      have c13b0 : ((t381.length : Int) == t373) = false := beq_eq_false_iff_ne.mpr c13
      have c13b1 : ((t381.length : Int) != t373) = true := bne_iff_ne.mpr c13
      have H' := Aside0.mk H; clear H
      try go_wp2
      replace HO_6 := Aside0.mk (Kd.R_drew HO_6.out); replace BK372 := Aside0.mk (blk_drew BK372.out); replace HB := Aside0.mk (below_drew1 HB.out)
      refine start_ (n := 10) (S := fun w' => w'.cell? ⟨gb372, 0, none⟩ = some (.int .i64 a0_0) ∧ w'.cell? ⟨gb372, 1, none⟩ = some (.slice A0_1 l0_1.length c0_1)) (ds := []) #[false, false, false, false, false, false, false, false, false, false] (by kernel_rfl) rfl rfl ⟨(blk_cell BK372.out 0).trans rfl, (blk_cell BK372.out 1).trans rfl⟩ (fun hHeld => ?_); refine with_tabW impl_NeedlessClues.tab8 impl_NeedlessClues.bits8 (fun HT_ HW_ => ?_)
      generalize wr.drew = w21 at HO_6 BK372 HB hHeld ⊢
      refine zA 0 22 HT_ ?_
      refine zA 2 24 HT_ ?_
      refine zA 4 26 HT_ ?_
      refine zA 8 30 HT_ ?_
      refine zT 1 23 HT_ HW_ hHeld ?_
      refine zT 3 25 HT_ HW_ hHeld ?_
      refine zO 5 (some 27) HT_ (fun K hK => ?_)
      refine goes_ Try.func51 (by kernel_rfl) rfl #[.slice A0_1 l0_1.length c0_1, .int .i64 x19_1] (by rfl) rfl rfl zO1_1 ?_
      with_reducible refine (impl_without.calls k1 (fun k_ => k_ < w.heap.size) _ _ l0_1 x19_1 t378 _ ?side1 A11.out).mono ?_
      (case side1 => exact Kd.V_mk HC0_1.out (Kd.F_below (Kd.C_F k43_heap HR0_1.out) (zy HB)))
      rintro e w22 ⟨v379, rfl, ho0, hb⟩
      refine ⟨_, rfl, ?_⟩
      have HO380 := Aside0.mk (Kd.R_lower (Kd.R_mono (ok' := fun k_ => True) ho0 (fun _ hk_ => trivial)) (below_size (zy HB)))
      replace HO_6 := zo HO_6 hb; replace BK372 := zb BK372 hb; replace HB := zh HB hb
      (try clear hb)
      (try clear hb2)
      (try clear hk)
      (try clear hi)
      (try clear ho0)
      obtain ⟨Ao23, co23, eo23⟩ := Kd.R_slice HO380.out
      (first | subst eo23 | (injection eo23 with f1_ f2_ f3_; have f4_ := f1_.symm; have f5_ := f3_.symm; clear f1_ f2_ f3_; subst f4_; subst f5_))
      refine hK.out _ _ ⟨(blk_cell BK372.out 0).trans rfl, (blk_cell BK372.out 1).trans rfl⟩ (fun hHeld => ?_)
      clear hK K
      refine zN 27 ?_
      refine zO 6 (some 28) HT_ (fun K hK => ?_)
      refine goes_ Try.func57 (by kernel_rfl) rfl #[.int .i64 a0_0, .slice Ao23 t378.length co23] (by rfl) rfl rfl zO1_1 ?_
      with_reducible refine (impl_solutions.calls k1 a0_0 _ _ t378 t381 _ ?side1 ?side2 A12.out).mono ?_
      (case side1 => repeat (first | exact (Kd.R_reads' HO380.out).2.2 | (with_reducible refine Kd.C_alloc ?_ _) | (with_reducible refine Kd.C_drewN ?_ _) | (with_reducible refine Kd.C_drew ?_)))
      (case side2 => exact (Kd.R_reads' HO380.out).2.1)
      rintro e w24 ⟨v382, rfl, ho0, hb⟩
      refine ⟨_, rfl, ?_⟩
      have HO383 := Aside0.mk (Kd.R_lower ho0 (below_size (zy HB)))
      replace HO_6 := zo HO_6 hb; replace HO380 := zo HO380 hb; replace BK372 := zb BK372 hb; replace HB := zh HB hb
      (try clear hb)
      (try clear hb2)
      (try clear hk)
      (try clear hi)
      (try clear ho0)
      obtain ⟨Ao25, co25, eo25⟩ := Kd.R_slice HO383.out
      (first | subst eo25 | (injection eo25 with f1_ f2_ f3_; have f4_ := f1_.symm; have f5_ := f3_.symm; clear f1_ f2_ f3_; subst f4_; subst f5_))
      refine hK.out _ _ ⟨(blk_cell BK372.out 0).trans rfl, (blk_cell BK372.out 1).trans rfl⟩ (fun hHeld => ?_)
      clear hK K
      refine zN 28 ?_
      refine zA 7 29 HT_ ?_
      refine zA 9 31 HT_ ?_
      refine done_ (done_of HT_.out (by kernel_rfl)) ?_
      try go_wp2
      go_roundg k1
      case measure => have := HK1.out; omega
      case rel => exact ⟨(x6_1), (wrap64 (x19_1 + 1)), zu, H', ⟨by have := HK1.out; omega⟩, zp HO_6, zk BK372, ⟨zy HB⟩⟩
    ·rw [if_neg c10] at H
     have c10b0 : decide (x19_1 < (l0_1.length : Int)) = false := decide_eq_false c10; clear c10; simp only [Option.some.injEq, Prod.mk.injEq] at H; obtain ⟨rfl, rfl⟩ := H
     go_wp2
     go_ret2
     exact ⟨_, zt, by (with_reducible repeat (first | apply Kd.R_alloc | apply Kd.R_drewN | apply Kd.R_drew)); exact HO_6.out, zy HB⟩
 ·replace c3 := Bool.eq_false_iff.mpr c3
  subst c3; rw [if_neg (show ¬ (false = true) by decide)] at H; simp only [Option.some.injEq, Prod.mk.injEq] at H; obtain ⟨rfl, rfl⟩ := H
  go_enter Try.func15, Try.ntmps15
  go_wp2_with (first | ((with_reducible refine gate_dst (N := 1) rfl ?_); refine zE 1 #[.int .i64 a0_0, .slice A0_1 l0_1.length c0_1] 28 ?_; intro gb372 hg w26 hbox hb; have BK372 := Aside0.mk (hbox); have GW372 := zg HB hg; have GE372 := GW372; replace HB := zh HB hb; clear hb hbox hg; obtain ⟨_, _, _, _⟩ := zc2 BK372) | ((with_reducible refine gate_callee (f := 56) rfl ?_); refine zG (some 10) Try.func56 #[.agg #[.int .i64 a0_0, .slice A0_1 l0_1.length c0_1]] ?_; (with_reducible refine (impl_CountSolutions.calls k a0_0 _ _ l0_1 t373 false _ ?side1 ?side2 A2.out).mono ?_); (case side1 => repeat (first | exact (Kd.C_below HR0_1.out HB.out) | (with_reducible refine Kd.C_alloc ?_ _) | (with_reducible refine Kd.C_drewN ?_ _) | (with_reducible refine Kd.C_drew ?_))); (case side2 => exact HC0_1.out); rintro e w28 ⟨rfl, hb⟩; refine ⟨_, rfl, ?_⟩; replace BK372 := zb BK372 hb; replace HB := zh HB hb; clear hb))
  go_ret2
  exact ⟨_, zt, by first | exact Kd.R_nil _ _ _ _ _ | exact Kd.N_nil _ _ _ _ _ | exact Kd.V_nil _ _ _ _ _ | exact Kd.Q_nil _ _ _ _ _ | exact Kd.S_nil _ _ _ _ _, zy HB⟩


/-! ### impl_areHidden: function 58 -/
def impl_areHidden.f (a0_0 : Int) (a0_1 : Int) (a0_2 : Int) : Option (Bool) := (impl_isSmall.f a0_0).bind fun t433 => (if t433 = true then ((impl_isSmall.f a0_1).bind fun t434 => (if t434 = true then ((impl_isSmall.f a0_2).bind fun t435 => (some t435)) else (some false))) else (some false))
set_option maxHeartbeats 8000000 in
set_option maxRecDepth 100000 in
theorem impl_areHidden.calls (a0_0 : Int) (a0_1 : Int) (a0_2 : Int) (r : Bool) (w : World) (h : impl_areHidden.f a0_0 a0_1 a0_2 = some r) :
  Calls Try.prog 58 #[.agg #[.int .i64 a0_0, .int .i64 a0_1, .int .i64 a0_2]] w fun e w' => e = .returned (.bool r) ∧ Below w.heap.size w w' := by
 have hu41 := Try.underlying41
 have HB := Aside0.mk (Below.refl w.heap.size w)
 have H : ((impl_isSmall.f a0_0).bind fun t433 => (if t433 = true then ((impl_isSmall.f a0_1).bind fun t434 => (if t434 = true then ((impl_isSmall.f a0_2).bind fun t435 => (some t435)) else (some false))) else (some false))) = some r := h
 clear h; replace H := Option.bind_eq_some_iff.mp H; obtain ⟨t433, A20, H⟩ := H; (try dsimp only at H); have A2 := Aside0.mk A20; clear A20
 by_cases c3 : t433 = true
 ·subst c3
  rw [if_pos rfl] at H; replace H := Option.bind_eq_some_iff.mp H; obtain ⟨t434, A40, H⟩ := H
  replace H : (if t434 = true then ((impl_isSmall.f a0_2).bind fun t435 => (some t435)) else (some false)) = some r := H
  have A4 := Aside0.mk A40; clear A40
  by_cases c5 : t434 = true
  ·subst c5
   rw [if_pos rfl] at H; replace H := Option.bind_eq_some_iff.mp H; obtain ⟨t435, A60, H⟩ := H
   replace H : (some t435) = some r := H
   have A6 := Aside0.mk A60; clear A60
   obtain rfl := Option.some.inj H
   go_enter Try.func58, Try.ntmps58
   go_wp2_with (first | ((with_reducible refine gate_dst (N := 1) rfl ?_); refine zE 1 #[.int .i64 a0_0, .int .i64 a0_1, .int .i64 a0_2] 41 ?_; intro gb432 hg w7 hbox hb; have BK432 := Aside0.mk (hbox); have GW432 := zg HB hg; have GE432 := GW432; replace HB := zh HB hb; clear hb hbox hg; obtain ⟨_, _, _, _, _, _⟩ := zc3 BK432) | ((with_reducible refine gate_callee (f := 72) rfl ?_); refine zG (some 5) Try.func72 #[.int .i64 a0_0] ?_; (with_reducible refine (impl_isSmall.calls a0_0 true _ A2.out).mono ?_); rintro e w' ⟨rfl, ⟨nd, rfl⟩⟩; refine ⟨_, rfl, ?_⟩) | (go_at_call 72; (with_reducible refine (impl_isSmall.calls a0_1 true _ A4.out).mono ?_); rintro e w' ⟨rfl, ⟨nd, rfl⟩⟩) | (go_at_call 72; (with_reducible refine (impl_isSmall.calls a0_2 t435 _ A6.out).mono ?_); rintro e w' ⟨rfl, ⟨nd, rfl⟩⟩))
   go_ret
   exact ⟨zt, zy HB⟩
  ·replace c5 := Bool.eq_false_iff.mpr c5
   subst c5; rw [if_neg (show ¬ (false = true) by decide)] at H
   obtain rfl := Option.some.inj H
   go_enter Try.func58, Try.ntmps58
   go_wp2_with (first | ((with_reducible refine gate_dst (N := 1) rfl ?_); refine zE 1 #[.int .i64 a0_0, .int .i64 a0_1, .int .i64 a0_2] 41 ?_; intro gb432 hg w9 hbox hb; have BK432 := Aside0.mk (hbox); have GW432 := zg HB hg; have GE432 := GW432; replace HB := zh HB hb; clear hb hbox hg; obtain ⟨_, _, _, _, _, _⟩ := zc3 BK432) | ((with_reducible refine gate_callee (f := 72) rfl ?_); refine zG (some 5) Try.func72 #[.int .i64 a0_0] ?_; (with_reducible refine (impl_isSmall.calls a0_0 true _ A2.out).mono ?_); rintro e w' ⟨rfl, ⟨nd, rfl⟩⟩; refine ⟨_, rfl, ?_⟩) | (go_at_call 72; (with_reducible refine (impl_isSmall.calls a0_1 false _ A4.out).mono ?_); rintro e w' ⟨rfl, ⟨nd, rfl⟩⟩))
   go_ret
   exact ⟨zt, zy HB⟩
 ·replace c3 := Bool.eq_false_iff.mpr c3
  subst c3; rw [if_neg (show ¬ (false = true) by decide)] at H
  obtain rfl := Option.some.inj H
  go_enter Try.func58, Try.ntmps58
  go_wp2_with (first | ((with_reducible refine gate_dst (N := 1) rfl ?_); refine zE 1 #[.int .i64 a0_0, .int .i64 a0_1, .int .i64 a0_2] 41 ?_; intro gb432 hg w11 hbox hb; have BK432 := Aside0.mk (hbox); have GW432 := zg HB hg; have GE432 := GW432; replace HB := zh HB hb; clear hb hbox hg; obtain ⟨_, _, _, _, _, _⟩ := zc3 BK432) | ((with_reducible refine gate_callee (f := 72) rfl ?_); refine zG (some 5) Try.func72 #[.int .i64 a0_0] ?_; (with_reducible refine (impl_isSmall.calls a0_0 false _ A2.out).mono ?_); rintro e w' ⟨rfl, ⟨nd, rfl⟩⟩; refine ⟨_, rfl, ?_⟩))
  go_ret
  exact ⟨zt, zy HB⟩


/-! ### mkNext: function 0 -/
def mkNext.f (s : Int) : Option Int := some (Int.tmod (wrap64 (wrap64 (s * 269) + 1361)) 10007)
set_option maxHeartbeats 8000000 in
set_option maxRecDepth 100000 in
theorem mkNext.calls (g : Nat) (s r : Int) (w : World) (hb : w.heap[g]? = some (.cells #[.int .i64 s] 3 (0, 0))) (h : mkNext.f s = some r) :
  Calls Try.prog 60 #[.pointer (some ⟨g, 0, none⟩)] w fun e w' => e = .returned (.int .i64 r) ∧ Drawn0 (w.setCell ⟨g, 0, none⟩ (.int .i64 r)) w' := by
 have hc : w.cell? ⟨g, 0, none⟩ = some (.int .i64 s) := (blk_cell hb 0).trans rfl
 have hf := blk_frozen hb 0
 obtain rfl := Option.some.inj h
 have hc2 : ∀ v, (w.setCell ⟨g, 0, none⟩ v).cell? ⟨g, 0, none⟩ = some v := fun v => World.cell?_setCell_same w ⟨g, 0, none⟩ v hc
 clear h hb
 go_enter Try.func60, Try.ntmps60
 go_wp2
 go_ret
 exact ⟨by first | rfl | (simp; done) | (simp [*]; done), by repeat (first | exact Drawn0.refl _ | apply Drawn0.step)⟩
/-- A call of a function value that lies in a slot, by the function's contract. -/
theorem goesV_ {P : Program} {ops : Array Oper} {Q : Exit → Act → World → Prop} {oi : Oper} {N : Option Tmp} {a : Act} {w : World} {K : Act → World → Prop} {f : FuncId} {fn : Func} {as_ : Array Operand} {ts : Array TypeId} (o : Operand) (lb : Array Value) (hf : P.funcs[f]? = some fn) (hname : (fn.name == "runtime.NumGoroutine") = false) (hb : fn.body.isSome = true) (args : Array Value)
  (hw : Region.wanted oi (yielded ops a.tmps) = true) (hN : oi.dst = N) (hop : oi.op = .call { callee := .value o, args := as_, argTypes := ts }) (hv : a.eval o = .func (.func f) #[] lb) (hargs : as_.map a.eval ++ lb = args)
  (h : Calls P f args w fun e w' => ∃ v, e = .returned v ∧ K (a.put N v) w') : if Region.wanted oi (yielded ops a.tmps) = true then Oper.wp P oi a w K Q else K (a.put N undef) w := by
 refine call_ f args hw hN ?_ h
 have he := enters_ hf hname hb args w
 unfold execOp
 simp [hop, hv, resolve, Deferred.ofValue, invoke, hargs, he]



/-! ### impl_MakePuzzle: function 19 -/
mutual
def impl_MakePuzzle.j0 : Nat → Int → Bool → Int → Int → Int → Int → Option (Int × (List (S43)) × Bool)
 | 0, _, _, _, _, _, _ => none
 | k + 1, x1, x23, x437000, x437001, x437002, x438000 => if x23 = true then (some (0, ([] : List (S43)), false)) else (impl_MakePuzzle.l0 k x1 0 x437000 x437001 x437002 x438000 x437000 ([] : List (S43)))
def impl_MakePuzzle.l0 : Nat → Int → Int → Int → Int → Int → Int → Int → List (S43) → Option (Int × (List (S43)) × Bool)
 | 0, _, _, _, _, _, _, _, _ => none
 | k + 1, x29, x30, x437000, x437001, x437002, x438000, x443000, x443001 => if x30 < x29 then ((mkNext.f x438000).bind fun t443 => ((mkNext.f t443).bind fun t444 => ((impl_told.f k x437000 x437001 x437002 (Int.tmod t443 6) (Int.tmod t444 2)).bind fun bt445 => (if x443001.length < 5864062014805 then (impl_MakePuzzle.l0 k x29 (wrap64 (x30 + 1)) x437000 x437001 x437002 t444 x443000 (x443001 ++ [(⟨bt445.1, bt445.2.1, bt445.2.2⟩ : S43)])) else (none))))) else (some (x443000, x443001, true))
end
def impl_MakePuzzle.f (k : Nat) (a0_0 : Int) (a0_1 : Int) (a0_2 : Int) (a1 : Int) (a2 : Int) : Option (Int × (List (S43)) × Bool) := (impl_areHidden.f a0_0 a0_1 a0_2).bind fun t439 => (if t439 = true then ((impl_within.f a1 0 6).bind fun t440 => (if t440 = true then ((impl_within.f a2 0 9999).bind fun t441 => (impl_MakePuzzle.j0 k a1 (!t441) a0_0 a0_1 a0_2 a2)) else (impl_MakePuzzle.j0 k a1 true a0_0 a0_1 a0_2 a2))) else (impl_MakePuzzle.j0 k a1 true a0_0 a0_1 a0_2 a2))
def impl_MakePuzzle.T8 : Bool × List (List Nat × List Nat) := (true, [([], []), ([0], [0]), ([], []), ([], []), ([], []), ([4], [4]), ([5], [5]), ([2, 3, 6, 5], [2, 3, 6]), ([7], [7]), ([1, 8, 7], [1, 8]), ([0, 1, 2, 3, 4, 5, 6, 7, 8, 9], []), ([10, 9, 9, 0, 1, 2, 3, 4, 5, 6, 7, 8, 9], [9, 10])])
def impl_MakePuzzle.B8 : List Nat := [0, 1, 0, 0, 0, 16, 48, 124, 252, 511, 1023, 2047]
theorem impl_MakePuzzle.tab8 : rtab .any (opsOf Try.f19 8) = impl_MakePuzzle.T8 := by kernel_rfl
theorem impl_MakePuzzle.bits8 : waitsOk impl_MakePuzzle.T8.2 impl_MakePuzzle.B8 = true := by kernel_rfl
set_option maxHeartbeats 8000000 in
set_option maxRecDepth 100000 in
theorem impl_MakePuzzle.calls (k : Nat) (a0_0 : Int) (a0_1 : Int) (a0_2 : Int) (a1 : Int) (a2 : Int) (r1 : Int) (r2 : List (S43)) (r3 : Bool) (w : World) (h : impl_MakePuzzle.f k a0_0 a0_1 a0_2 a1 a2 = some (r1, r2, r3)) :
  Calls Try.prog 19 #[.agg #[.int .i64 a0_0, .int .i64 a0_1, .int .i64 a0_2], .int .i64 a1, .int .i64 a2] w fun e w' => ∃ v1_ : Value, e = .returned (.tuple #[.agg #[.int .i64 r1, v1_], .bool r3]) ∧ Kd.R k43 43 w' w.heap.size (fun _ => True) v1_ r2 ∧ Below w.heap.size w w' := by
 have hu41 := Try.underlying41; have hu28 := Try.underlying28
 have HB := Aside0.mk (Below.refl w.heap.size w)
 have H : ((impl_areHidden.f a0_0 a0_1 a0_2).bind fun t439 => (if t439 = true then ((impl_within.f a1 0 6).bind fun t440 => (if t440 = true then ((impl_within.f a2 0 9999).bind fun t441 => (impl_MakePuzzle.j0 k a1 (!t441) a0_0 a0_1 a0_2 a2)) else (impl_MakePuzzle.j0 k a1 true a0_0 a0_1 a0_2 a2))) else (impl_MakePuzzle.j0 k a1 true a0_0 a0_1 a0_2 a2))) = some (r1, r2, r3) := h
 clear h; have HC4 := Aside0.mk H; clear H
 go_enter Try.func19, Try.ntmps19
 go_upto_region 1 with (first | ((with_reducible refine gate_dst (N := 3) rfl ?_); refine zE 3 #[.int .i64 a0_0, .int .i64 a0_1, .int .i64 a0_2] 41 ?_; intro gb436 hg w5 hbox hb; have BK436 := Aside0.mk (hbox); have GW436 := zg HB hg; have GE436 := GW436; replace HB := zh HB hb; clear hb hbox hg) | ((with_reducible refine gate_dst (N := 5) rfl ?_); refine zE 5 #[.int .i64 a2] 3 ?_; intro gb437 hg w6 hbox hb; have BK437 := Aside0.mk (hbox); have GW437 := zg HB hg; have GE437 := GW437; have NB436_437 := zl BK436 hg; have NB437_436 := zr BK436 hg; replace BK436 := zb BK436 hb; replace HB := zh HB hb; clear hb hbox hg) | ((with_reducible refine gate_dst (N := 6) rfl ?_); refine zE 6 #[.int .i64 0, .slice none 0 0] 28 ?_; intro gb438 hg w7 hbox hb; have BK438 := Aside0.mk (hbox); have GW438 := zg HB hg; have GE438 := GW438; have NB436_438 := zl BK436 hg; have NB438_436 := zr BK436 hg; have NB437_438 := zl BK437 hg; have NB438_437 := zr BK437 hg; replace BK436 := zb BK436 hb; replace BK437 := zb BK437 hb; replace HB := zh HB hb; clear hb hbox hg))
 (try simp only [Act.put, List.setIfInBounds_toArray, List.set_cons_zero, List.set_cons_succ])
 go_cut [23] (fun v23 wc => ∃ (kq : Nat) (x23_3 : Bool), v23 = .bool x23_3 ∧ Aside0 (impl_MakePuzzle.j0 kq a1 x23_3 a0_0 a0_1 a0_2 a2 = some (r1, r2, r3)) ∧ Aside0 (kq ≤ k) ∧ Aside0 (wc.heap[gb436]? = some (.cells #[.int .i64 a0_0, .int .i64 a0_1, .int .i64 a0_2] 41 (0, 0))) ∧ Aside0 (wc.heap[gb437]? = some (.cells #[.int .i64 a2] 3 (0, 0))) ∧ Aside0 (wc.heap[gb438]? = some (.cells #[.int .i64 0, (.slice none 0 0)] 28 (0, 0))) ∧ Aside0 (Below w.heap.size w wc))
 case first =>
  have H := HC4.out; clear HC4; replace H := Option.bind_eq_some_iff.mp H; obtain ⟨t439, A80, H⟩ := H; (try dsimp only at H); have A8 := Aside0.mk A80; clear A80
  by_cases c9 : t439 = true
  ·subst c9
   rw [if_pos rfl] at H; replace H := Option.bind_eq_some_iff.mp H; obtain ⟨t440, A100, H⟩ := H; (try dsimp only at H); have A10 := Aside0.mk A100; clear A100
   by_cases c11 : t440 = true
   ·subst c11
    rw [if_pos rfl] at H; replace H := Option.bind_eq_some_iff.mp H; obtain ⟨t441, A120, H⟩ := H
    replace H : (impl_MakePuzzle.j0 k a1 (!t441) a0_0 a0_1 a0_2 a2) = some (r1, r2, r3) := H
    have A12 := Aside0.mk A120; clear A120; have H' := Aside0.mk H; clear H; have hnb13 := NB436_437.out; have hnc13 := NB437_436.out; have hnb14 := NB436_438.out; have hnc14 := NB438_436.out
    obtain ⟨_, _, _, _, _, _⟩ := zc3 BK436
    go_wp2_with (first | ((with_reducible refine gate_callee (f := 58) rfl ?_); refine zG (some 12) Try.func58 #[.agg #[.int .i64 a0_0, .int .i64 a0_1, .int .i64 a0_2]] ?_; (with_reducible refine (impl_areHidden.calls a0_0 a0_1 a0_2 true _ A8.out).mono ?_); rintro e w16 ⟨rfl, hb⟩; refine ⟨_, rfl, ?_⟩; replace BK436 := zb BK436 hb; replace BK437 := zb BK437 hb; replace BK438 := zb BK438 hb; replace HB := zh HB hb; clear hb) | (go_at_call 59; (with_reducible refine (impl_within.calls a1 0 6 true _ A10.out).mono ?_); rintro e w' ⟨rfl, ⟨nd, rfl⟩⟩; have hnb17 := NB437_438.out; have hnc17 := NB438_437.out; obtain ⟨_, _⟩ := zc1 BK437) | (go_at_call 59; (with_reducible refine (impl_within.calls a2 0 9999 t441 _ A12.out).mono ?_); rintro e w' ⟨rfl, ⟨nd, rfl⟩⟩))
    go_meet
    case rel => exact ⟨_, (!t441), zu, H', ⟨by first | omega | exact Nat.le_refl _⟩, zk BK436, zk BK437, zk BK438, ⟨zy HB⟩⟩
   ·replace c11 := Bool.eq_false_iff.mpr c11
    subst c11; rw [if_neg (show ¬ (false = true) by decide)] at H; have H' := Aside0.mk H; clear H; have hnb19 := NB436_437.out; have hnc19 := NB437_436.out; have hnb20 := NB436_438.out; have hnc20 := NB438_436.out
    obtain ⟨_, _, _, _, _, _⟩ := zc3 BK436
    go_wp2_with (first | ((with_reducible refine gate_callee (f := 58) rfl ?_); refine zG (some 12) Try.func58 #[.agg #[.int .i64 a0_0, .int .i64 a0_1, .int .i64 a0_2]] ?_; (with_reducible refine (impl_areHidden.calls a0_0 a0_1 a0_2 true _ A8.out).mono ?_); rintro e w22 ⟨rfl, hb⟩; refine ⟨_, rfl, ?_⟩; replace BK436 := zb BK436 hb; replace BK437 := zb BK437 hb; replace BK438 := zb BK438 hb; replace HB := zh HB hb; clear hb) | (go_at_call 59; (with_reducible refine (impl_within.calls a1 0 6 false _ A10.out).mono ?_); rintro e w' ⟨rfl, ⟨nd, rfl⟩⟩))
    go_meet
    case rel => exact ⟨_, (true), zu, H', ⟨by first | omega | exact Nat.le_refl _⟩, zk BK436, zk BK437, zk BK438, ⟨zy HB⟩⟩
  ·replace c9 := Bool.eq_false_iff.mpr c9
   subst c9; rw [if_neg (show ¬ (false = true) by decide)] at H; have H' := Aside0.mk H; clear H; have hnb23 := NB436_437.out; have hnc23 := NB437_436.out; have hnb24 := NB436_438.out; have hnc24 := NB438_436.out
   obtain ⟨_, _, _, _, _, _⟩ := zc3 BK436
   go_wp2_with (first | ((with_reducible refine gate_callee (f := 58) rfl ?_); refine zG (some 12) Try.func58 #[.agg #[.int .i64 a0_0, .int .i64 a0_1, .int .i64 a0_2]] ?_; (with_reducible refine (impl_areHidden.calls a0_0 a0_1 a0_2 false _ A8.out).mono ?_); rintro e w26 ⟨rfl, hb⟩; refine ⟨_, rfl, ?_⟩; replace BK436 := zb BK436 hb; replace BK437 := zb BK437 hb; replace BK438 := zb BK438 hb; replace HB := zh HB hb; clear hb))
   go_meet
   case rel => exact ⟨_, (true), zu, H', ⟨by first | omega | exact Nat.le_refl _⟩, zk BK436, zk BK437, zk BK438, ⟨zy HB⟩⟩
 case rest =>
  clear HC4
  obtain ⟨kq, x23_3, rfl, HA, HJ3, BK436, BK437, BK438, HB⟩ := hcut
  cases kq with
  | zero => exact absurd HA.out (by simp [impl_MakePuzzle.j0])
  | succ kj3 =>
   have H := HA.out; clear HA; simp only [impl_MakePuzzle.j0] at H
   by_cases c27 : x23_3 = true
   ·subst c27
    rw [if_pos rfl] at H; simp only [Option.some.injEq, Prod.mk.injEq] at H; obtain ⟨rfl, rfl, rfl⟩ := H; have hnb28 := NB438_436.out; have hnc28 := NB436_438.out; have hnb29 := NB438_437.out; have hnc29 := NB437_438.out
    obtain ⟨_, _, _, _⟩ := zc2 BK438
    go_wp2
    refine bodyPost_ret (results_ct rfl _ _ gb438 28 #[.int .i64 0, .slice none 0 0] (0, 0) _ rfl (zw BK438) Try.underlying28 rfl (by kernel_rfl)) rfl ?_
    exact ⟨_, zt, by first | exact Kd.R_nil _ _ _ _ _ | exact Kd.N_nil _ _ _ _ _ | exact Kd.V_nil _ _ _ _ _ | exact Kd.Q_nil _ _ _ _ _ | exact Kd.S_nil _ _ _ _ _, zy HB⟩
   ·replace c27 := Bool.eq_false_iff.mpr c27
    subst c27; rw [if_neg (show ¬ (false = true) by decide)] at H; have H' := Aside0.mk H; clear H; have hnb31 := NB436_437.out; have hnc31 := NB437_436.out; have hnb32 := NB436_438.out; have hnc32 := NB438_436.out
    obtain ⟨_, _, _, _, _, _⟩ := zc3 BK436
    go_wp2_with (first | ((with_reducible refine gate_dst (N := 9) rfl ?_); refine zE 9 #[.int .i64 0, .slice none 0 0] 28 ?_; intro gb442 hg w34 hbox hb; have BK442 := Aside0.mk (hbox); have GW442 := zg HB hg; have GE442 := GW442; have NB436_442 := zl BK436 hg; have NB442_436 := zr BK436 hg; have NB437_442 := zl BK437 hg; have NB442_437 := zr BK437 hg; have NB438_442 := zl BK438 hg; have NB442_438 := zr BK438 hg; replace BK436 := zb BK436 hb; replace BK437 := zb BK437 hb; replace BK438 := zb BK438 hb; replace HB := zh HB hb; clear hb hbox hg; have hnb35 := NB442_436.out; have hnc35 := NB436_442.out; have hnb36 := NB442_437.out; have hnc36 := NB437_442.out; have hnb37 := NB442_438.out; have hnc37 := NB438_442.out; obtain ⟨_, _, _, _⟩ := zc2 BK442))
    go_loopg [30] kj3 (fun kq v30 w' => ∃ (x30_2 : Int) (x438000_2 : Int) (x443001_2 : List (S43)) (u443001 : Value), v30 = .int .i64 x30_2 ∧ Aside0 (impl_MakePuzzle.l0 kq a1 x30_2 a0_0 a0_1 a0_2 x438000_2 a0_0 x443001_2 = some (r1, r2, r3)) ∧ Aside0 (kq ≤ kj3) ∧ Aside0 (Kd.R k43 43 w' w.heap.size (fun _ => True) u443001 x443001_2) ∧ Aside0 (w'.heap[gb436]? = some (.cells #[.int .i64 a0_0, .int .i64 a0_1, .int .i64 a0_2] 41 (0, 0))) ∧ Aside0 (w'.heap[gb437]? = some (.cells #[.int .i64 x438000_2] 3 (0, 0))) ∧ Aside0 (w'.heap[gb438]? = some (.cells #[.int .i64 0, (.slice none 0 0)] 28 (0, 0))) ∧ Aside0 (w'.heap[gb442]? = some (.cells #[.int .i64 a0_0, u443001] 28 (0, 0))) ∧ Aside0 (Below w.heap.size w w'))
    case atStart => exact ⟨(0), (a2), (([] : List (S43))), (.slice none 0 0), zu, H', ⟨Nat.le_refl _⟩, ⟨by first | exact Kd.R_nil _ _ _ _ _ | exact Kd.N_nil _ _ _ _ _ | exact Kd.V_nil _ _ _ _ _ | exact Kd.Q_nil _ _ _ _ _ | exact Kd.S_nil _ _ _ _ _⟩, zk BK436, zk BK437, zk BK438, ⟨zw BK442⟩, ⟨zy HB⟩⟩
    case round =>
     clear H'
     obtain ⟨x30_2, x438000_2, x443001_2, u443001, rfl, HA, HK2, HO_443001, BK436, BK437, BK438, BK442, HB⟩ := hrel
     cases gk with
     | zero => exact absurd HA.out (by simp [impl_MakePuzzle.l0])
     | succ k2 =>
      have H := HA.out; clear HA; simp only [impl_MakePuzzle.l0] at H
      by_cases c39 : x30_2 < a1
      ·rw [if_pos c39] at H
       have c39b0 : decide (x30_2 < a1) = true := decide_eq_true c39; clear c39; replace H := Option.bind_eq_some_iff.mp H; obtain ⟨t443, A400, H⟩ := H; (try dsimp only at H); have A40 := Aside0.mk A400; clear A400; replace H := Option.bind_eq_some_iff.mp H; obtain ⟨t444, A410, H⟩ := H; (try dsimp only at H); have A41 := Aside0.mk A410; clear A410; replace H := Option.bind_eq_some_iff.mp H; obtain ⟨⟨t445, t446, t447⟩, A420, H⟩ := H; (try dsimp only at H); have A42 := Aside0.mk A420; clear A420
       by_cases c43 : x443001_2.length < 5864062014805
       ·rw [if_pos c43] at H
        have LMc43 := Aside0.mk c43; clear c43
        obtain ⟨y448, hy448⟩ : ∃ y_ : List (S43), y_ = (x443001_2 ++ [(⟨t445, t446, t447⟩ : S43)]) := ⟨_, rfl⟩
        replace H : (impl_MakePuzzle.l0 k2 a1 (wrap64 (x30_2 + 1)) a0_0 a0_1 a0_2 t444 a0_0 y448) = some (r1, r2, r3) := by first | (rw [hy448]; with_reducible exact H) | (have H2_ := (Option.bind_some _ _).symm.trans H; rw [hy448]; with_reducible exact H2_) | (have H2_ := (Option.bind_some _ _).symm.trans H; with_reducible exact H2_) | with_reducible exact H | (rw [hy448]; exact H) | exact H
        have Ny448 := Aside0.mk hy448; clear hy448; have H' := Aside0.mk H; clear H; have hnb44 := NB437_436.out; have hnc44 := NB436_437.out; have hnb45 := NB437_438.out; have hnc45 := NB438_437.out; have hnb46 := NB437_442.out; have hnc46 := NB442_437.out
        obtain ⟨_, _⟩ := zc1 BK437
        have eg75 := enters_of Try.func60 (by kernel_rfl) rfl
        go_wp2_with (go_at_call 60; refine (mkNext.calls gb437 x438000_2 t443 _ BK437.out A40.out).mono ?_; rintro e w48 ⟨rfl, ⟨nd, hw_⟩⟩; have n0_ : Aside0 (Kd.R k43 43 w48 w.heap.size (fun _ => True) u443001 x443001_2) := ⟨by rw [hw_]; (with_reducible repeat (first | apply Kd.R_alloc | apply Kd.R_drewN | apply Kd.R_drew)); exact Kd.R_mono (Kd.R_far (p := ⟨gb437, 0, none⟩) (Kd.R_types HO_443001.out BK437.out (by decide)) (fun _ hk => hk.2) (.int .i64 t443)) (fun _ hk => trivial)⟩; have n1_ : Aside0 (w48.heap[gb436]? = some (.cells #[.int .i64 a0_0, .int .i64 a0_1, .int .i64 a0_2] 41 (0, 0))) := ⟨by rw [hw_]; (with_reducible repeat (first | refine blk_drewN ?_ _ | refine blk_drew ?_ | refine blk_alloc ?_ _)); refine blk_far ?_ NB436_437.out _; (with_reducible repeat (first | refine blk_drewN ?_ _ | refine blk_drew ?_ | refine blk_alloc ?_ _)); exact BK436.out⟩; have n2_ : Aside0 (w48.heap[gb437]? = some (.cells #[.int .i64 t443] 3 (0, 0))) := ⟨by rw [hw_]; (with_reducible repeat (first | refine blk_drewN ?_ _ | refine blk_drew ?_ | refine blk_alloc ?_ _)); refine blk_put (cs := #[.int .i64 x438000_2]) ?_ 0 _ rfl; (with_reducible repeat (first | refine blk_drewN ?_ _ | refine blk_drew ?_ | refine blk_alloc ?_ _)); exact BK437.out⟩; have n3_ : Aside0 (w48.heap[gb438]? = some (.cells #[.int .i64 0, .slice none 0 0] 28 (0, 0))) := ⟨by rw [hw_]; (with_reducible repeat (first | refine blk_drewN ?_ _ | refine blk_drew ?_ | refine blk_alloc ?_ _)); refine blk_far ?_ NB438_437.out _; (with_reducible repeat (first | refine blk_drewN ?_ _ | refine blk_drew ?_ | refine blk_alloc ?_ _)); exact BK438.out⟩; have n4_ : Aside0 (w48.heap[gb442]? = some (.cells #[.int .i64 a0_0, u443001] 28 (0, 0))) := ⟨by rw [hw_]; (with_reducible repeat (first | refine blk_drewN ?_ _ | refine blk_drew ?_ | refine blk_alloc ?_ _)); refine blk_far ?_ NB442_437.out _; (with_reducible repeat (first | refine blk_drewN ?_ _ | refine blk_drew ?_ | refine blk_alloc ?_ _)); exact BK442.out⟩; have n5_ : Aside0 (Below w.heap.size w w48) := ⟨by rw [hw_]; repeat (first | (with_reducible first | exact HB.out | apply below_alloc | apply pw_below_drewN | apply below_drew1 | refine below_set ?_ GE436.out | refine below_set ?_ GE437.out | refine below_set ?_ GE438.out | refine below_set ?_ GE442.out) | exact HB.out)⟩; clear HO_443001 BK436 BK437 BK438 BK442 HB hw_; have HO_443001 := n0_; have BK436 := n1_; have BK437 := n2_; have BK438 := n3_; have BK442 := n4_; have HB := n5_; clear n0_ n1_ n2_ n3_ n4_ n5_)
        replace HO_443001 := Aside0.mk (Kd.R_drew HO_443001.out); replace BK436 := Aside0.mk (blk_drew BK436.out); replace BK437 := Aside0.mk (blk_drew BK437.out); replace BK438 := Aside0.mk (blk_drew BK438.out); replace BK442 := Aside0.mk (blk_drew BK442.out); replace HB := Aside0.mk (below_drew1 HB.out)
        refine start_ (n := 12) (S := fun w' => w'.cell? ⟨gb442, 0, none⟩ = some (.int .i64 a0_0) ∧ w'.cell? ⟨gb442, 1, none⟩ = some (u443001) ∧ w'.cell? ⟨gb436, 0, none⟩ = some (.int .i64 a0_0) ∧ w'.cell? ⟨gb436, 1, none⟩ = some (.int .i64 a0_1) ∧ w'.cell? ⟨gb436, 2, none⟩ = some (.int .i64 a0_2)) (ds := [11]) #[false, false, false, false, false, false, false, false, false, false, false, false] (by kernel_rfl) rfl rfl ⟨(blk_cell BK442.out 0).trans rfl, (blk_cell BK442.out 1).trans rfl, (blk_cell BK436.out 0).trans rfl, (blk_cell BK436.out 1).trans rfl, (blk_cell BK436.out 2).trans rfl⟩ (fun hHeld => ?_); refine with_tabW impl_MakePuzzle.tab8 impl_MakePuzzle.bits8 (fun HT_ HW_ => ?_)
        generalize w48.drew = w49 at HO_443001 BK436 BK437 BK438 BK442 HB hHeld ⊢
        refine zA 0 35 HT_ ?_
        refine zA 3 38 HT_ ?_
        refine zA 4 39 HT_ ?_
        refine zT 1 36 HT_ HW_ hHeld ?_
        refine zT 2 37 HT_ HW_ hHeld ?_
        refine zO 5 (some 40) HT_ (fun K hK => ?_)
        refine goesV_ (.tmp 39) #[.pointer (some ⟨gb437, 0, none⟩)] Try.func60 (by kernel_rfl) rfl #[.pointer (some ⟨gb437, 0, none⟩)] (by rfl) rfl rfl (by rfl) zO1_7 ?_
        refine (mkNext.calls gb437 t443 t444 _ BK437.out A41.out).mono ?_
        rintro e wz_ ⟨rfl, ⟨nd, hw_⟩⟩
        refine ⟨_, rfl, ?_⟩
        have n0_ : Aside0 (Kd.R k43 43 wz_ w.heap.size (fun _ => True) u443001 x443001_2) := ⟨by rw [hw_]; (with_reducible repeat (first | apply Kd.R_alloc | apply Kd.R_drewN | apply Kd.R_drew)); exact Kd.R_mono (Kd.R_far (p := ⟨gb437, 0, none⟩) (Kd.R_types HO_443001.out BK437.out (by decide)) (fun _ hk => hk.2) (.int .i64 t444)) (fun _ hk => trivial)⟩
        have n1_ : Aside0 (wz_.heap[gb436]? = some (.cells #[.int .i64 a0_0, .int .i64 a0_1, .int .i64 a0_2] 41 (0, 0))) := ⟨by rw [hw_]; (with_reducible repeat (first | refine blk_drewN ?_ _ | refine blk_drew ?_ | refine blk_alloc ?_ _)); refine blk_far ?_ NB436_437.out _; (with_reducible repeat (first | refine blk_drewN ?_ _ | refine blk_drew ?_ | refine blk_alloc ?_ _)); exact BK436.out⟩
        have n2_ : Aside0 (wz_.heap[gb437]? = some (.cells #[.int .i64 t444] 3 (0, 0))) := ⟨by rw [hw_]; (with_reducible repeat (first | refine blk_drewN ?_ _ | refine blk_drew ?_ | refine blk_alloc ?_ _)); refine blk_put (cs := #[.int .i64 t443]) ?_ 0 _ rfl; (with_reducible repeat (first | refine blk_drewN ?_ _ | refine blk_drew ?_ | refine blk_alloc ?_ _)); exact BK437.out⟩
        have n3_ : Aside0 (wz_.heap[gb438]? = some (.cells #[.int .i64 0, .slice none 0 0] 28 (0, 0))) := ⟨by rw [hw_]; (with_reducible repeat (first | refine blk_drewN ?_ _ | refine blk_drew ?_ | refine blk_alloc ?_ _)); refine blk_far ?_ NB438_437.out _; (with_reducible repeat (first | refine blk_drewN ?_ _ | refine blk_drew ?_ | refine blk_alloc ?_ _)); exact BK438.out⟩
        have n4_ : Aside0 (wz_.heap[gb442]? = some (.cells #[.int .i64 a0_0, u443001] 28 (0, 0))) := ⟨by rw [hw_]; (with_reducible repeat (first | refine blk_drewN ?_ _ | refine blk_drew ?_ | refine blk_alloc ?_ _)); refine blk_far ?_ NB442_437.out _; (with_reducible repeat (first | refine blk_drewN ?_ _ | refine blk_drew ?_ | refine blk_alloc ?_ _)); exact BK442.out⟩
        have n5_ : Aside0 (Below w.heap.size w wz_) := ⟨by rw [hw_]; repeat (first | (with_reducible first | exact HB.out | apply below_alloc | apply pw_below_drewN | apply below_drew1 | refine below_set ?_ GE436.out | refine below_set ?_ GE437.out | refine below_set ?_ GE438.out | refine below_set ?_ GE442.out) | exact HB.out)⟩
        clear HO_443001 BK436 BK437 BK438 BK442 HB hw_; have HO_443001 := n0_; have BK436 := n1_; have BK437 := n2_; have BK438 := n3_; have BK442 := n4_; have HB := n5_; clear n0_ n1_ n2_ n3_ n4_ n5_
        refine hK.out _ _ ⟨(blk_cell BK442.out 0).trans rfl, (blk_cell BK442.out 1).trans rfl, (blk_cell BK436.out 0).trans rfl, (blk_cell BK436.out 1).trans rfl, (blk_cell BK436.out 2).trans rfl⟩ (fun hHeld => ?_)
        clear hK K
        refine zN 40 ?_
        refine zA 6 41 HT_ ?_
        refine zO 7 (some 42) HT_ (fun K hK => ?_)
        refine goes_ Try.func61 (by kernel_rfl) rfl #[.agg #[.int .i64 a0_0, .int .i64 a0_1, .int .i64 a0_2], .int .i64 (Int.tmod t443 6), .int .i64 (Int.tmod t444 2)] (by rfl) rfl rfl zO1_1 ?_
        with_reducible refine (impl_told.calls k2 a0_0 a0_1 a0_2 (Int.tmod t443 6) (Int.tmod t444 2) t445 t446 t447 _ A42.out).mono ?_
        rintro e w50 ⟨rfl, hb⟩
        refine ⟨_, rfl, ?_⟩
        replace HO_443001 := zo HO_443001 hb; replace BK436 := zb BK436 hb; replace BK437 := zb BK437 hb; replace BK438 := zb BK438 hb; replace BK442 := zb BK442 hb; replace HB := zh HB hb
        (try clear hb)
        (try clear hb2)
        (try clear hk)
        (try clear hi)
        refine hK.out _ _ ⟨(blk_cell BK442.out 0).trans rfl, (blk_cell BK442.out 1).trans rfl, (blk_cell BK436.out 0).trans rfl, (blk_cell BK436.out 1).trans rfl, (blk_cell BK436.out 2).trans rfl⟩ (fun hHeld => ?_)
        clear hK K
        refine zN 42 ?_
        refine zO 8 (some 43) HT_ (fun K hK => ?_)
        refine value_ (w1 := ?_) (v := ?_) (by rfl) rfl ?_ ?_
        rotate_left 2
        ·go_simp
         constructor
         ·rfl
         ·rfl
        refine hK.out _ _ ⟨(blk_cell (blk_alloc BK442.out _) 0).trans rfl, (blk_cell (blk_alloc BK442.out _) 1).trans rfl, (blk_cell (blk_alloc BK436.out _) 0).trans rfl, (blk_cell (blk_alloc BK436.out _) 1).trans rfl, (blk_cell (blk_alloc BK436.out _) 2).trans rfl⟩ (fun hHeld => ?_)
        clear hK K
        refine zN 43 ?_
        refine zO 9 (some 44) HT_ (fun K hK => ?_)
        refine Kd.R_append_step k43 (w0 := w) w.heap.size (by rfl) (.tmp 36) (.tmp 43) 26 43 (.agg #[(.int .i64 0), (.int .i64 0), (.int .i64 0)]) 24 rfl Try.underlying26 info43 rfl (by decide) (by omega) u443001 x443001_2 (⟨t445, t446, t447⟩ : S43) [.int .i64 t445, .int .i64 t446, .int .i64 t447] (fun _ => True) (fun _ => False) rfl rfl ?aP (fun _ hk => hk.elim) ?aF ?aO ?aB ?aS ?aL ?_
        (case aP => exact k43_mkM _ _ _ (⟨t445, t446, t447⟩ : S43))
        (case aB => exact (zy HB))
        (case aF => exact (fun _ _ => trivial))
        (case aO => exact (zs HO_443001))
        (case aS => exact (below_size (zy HB)))
        (case aL => have := LMc43.out; omega)
        intro v449 w51 ho hb hg hat
        rw [← Ny448.out] at ho
        have n0_ := Aside0.mk (blk_grown (zq BK436) hg (Kd.R_ne HO_443001.out BK436.out (by decide)))
        have n1_ := Aside0.mk (blk_grown (zq BK437) hg (Kd.R_ne HO_443001.out BK437.out (by decide)))
        have n2_ := Aside0.mk (blk_grown (zq BK438) hg (Kd.R_ne HO_443001.out BK438.out (by decide)))
        have n3_ := Aside0.mk (blk_grown (zq BK442) hg (Kd.R_ne HO_443001.out BK442.out (by decide)))
        have HO450 := Aside0.mk (ho)
        replace HB := Aside0.mk hb
        clear HO_443001; clear BK436; have BK436 := n0_; clear n0_; clear BK437; have BK437 := n1_; clear n1_; clear BK438; have BK438 := n2_; clear n2_; clear BK442; have BK442 := n3_; clear n3_; clear ho hb hg hat
        obtain ⟨Ao52, co52, eo52⟩ := Kd.R_slice HO450.out
        (first | subst eo52 | (injection eo52 with f1_ f2_ f3_; have f4_ := f1_.symm; have f5_ := f3_.symm; clear f1_ f2_ f3_; subst f4_; subst f5_))
        refine hK.out _ _ ⟨(blk_cell BK442.out 0).trans rfl, (blk_cell BK442.out 1).trans rfl, (blk_cell BK436.out 0).trans rfl, (blk_cell BK436.out 1).trans rfl, (blk_cell BK436.out 2).trans rfl⟩ (fun hHeld => ?_)
        clear hK K
        refine zN 44 ?_
        refine zA 10 45 HT_ ?_
        refine last_ (i := 11) (N := none) #[true, true, true, true, true, true, true, true, true, true, true, true] rfl rfl (one_of HT_.out (by kernel_rfl)) (by decide) (fun K hK => ?_)
        have hs53 : w51.cell? ⟨gb442, 1, none⟩ = some (u443001) := (blk_cell BK442.out 1).trans rfl
        have hfs53 := blk_frozen BK442.out 1
        have hns53_0 := NB436_442.out; have hns53_1 := NB437_442.out; have hns53_2 := NB438_442.out; have hms53_0 := NB442_436.out; have hms53_1 := NB442_437.out; have hms53_2 := NB442_438.out
        refine skip_ (w1 := ?_) (by rfl) rfl ?_ ?_
        rotate_left
        ·go_simp
         rfl
        refine hK.out _ _ ?_
        clear hK K
        refine done_ (done_of HT_.out (by kernel_rfl)) ?_
        obtain ⟨_, _⟩ := zc1 BK437
        try go_wp2
        go_roundg k2
        case measure => have := HJ3.out; have := HK2.out; omega
        case rel => exact ⟨(wrap64 (x30_2 + 1)), (t444), (y448), (.slice Ao52 y448.length co52), zu, H', ⟨by have := HJ3.out; have := HK2.out; omega⟩, ⟨by (with_reducible repeat (first | apply Kd.R_alloc | apply Kd.R_drewN | apply Kd.R_drew)); exact Kd.R_mono (Kd.R_far (p := ⟨gb442, 1, none⟩) (Kd.R_types HO450.out BK442.out (by decide)) (fun _ hk => hk.2) (.slice Ao52 y448.length co52)) (fun _ hk => trivial)⟩, zk BK436, zk BK437, zk BK438, ⟨zw BK442⟩, ⟨zy HB⟩⟩
       ·rw [if_neg c43] at H
        exact absurd H zO1_7
      ·rw [if_neg c39] at H
       have c39b0 : decide (x30_2 < a1) = false := decide_eq_false c39; clear c39; simp only [Option.some.injEq, Prod.mk.injEq] at H; obtain ⟨rfl, rfl, rfl⟩ := H; have hnb55 := NB442_436.out; have hnc55 := NB436_442.out; have hnb56 := NB442_437.out; have hnc56 := NB437_442.out; have hnb57 := NB442_438.out; have hnc57 := NB438_442.out
       obtain ⟨_, _, _, _⟩ := zc2 BK442
       have hnb59 := NB438_436.out; have hnc59 := NB436_438.out; have hnb60 := NB438_437.out; have hnc60 := NB437_438.out
       obtain ⟨_, _, _, _⟩ := zc2 BK438
       obtain ⟨Ao62, co62, eo62⟩ := Kd.R_slice HO_443001.out
       subst eo62
       go_wp2
       refine bodyPost_ret (results_ct rfl _ _ gb438 28 #[.int .i64 a0_0, .slice Ao62 x443001_2.length co62] (0, 0) _ rfl (zw BK438) Try.underlying28 rfl (by kernel_rfl)) rfl ?_
       exact ⟨_, zt, by (with_reducible repeat (first | apply Kd.R_alloc | apply Kd.R_drewN | apply Kd.R_drew)); exact Kd.R_mono (Kd.R_far (p := ⟨gb438, 1, none⟩) (Kd.R_far (p := ⟨gb438, 0, none⟩) (Kd.R_types HO_443001.out BK438.out (by decide)) (fun _ hk => hk.2) (.int .i64 a0_0)) (fun _ hk => hk.2) (.slice Ao62 x443001_2.length co62)) (fun _ hk => trivial), zy HB⟩


/-! ### spec_pzHidden: function 62 -/
def spec_pzHidden.f (a0_0 : Int) (a0_1 : Int) (a0_2 : Int) : Option (Bool) := (spec_pzWide.f a0_0).bind fun t452 => (if t452 = true then ((spec_pzWide.f a0_1).bind fun t453 => (if t453 = true then ((spec_pzWide.f a0_2).bind fun t454 => (some t454)) else (some false))) else (some false))
set_option maxHeartbeats 8000000 in
set_option maxRecDepth 100000 in
theorem spec_pzHidden.calls (a0_0 : Int) (a0_1 : Int) (a0_2 : Int) (r : Bool) (w : World) (h : spec_pzHidden.f a0_0 a0_1 a0_2 = some r) :
  Calls Try.prog 62 #[.agg #[.int .i64 a0_0, .int .i64 a0_1, .int .i64 a0_2]] w fun e w' => e = .returned (.bool r) ∧ Below w.heap.size w w' := by
 have hu41 := Try.underlying41
 have HB := Aside0.mk (Below.refl w.heap.size w)
 have H : ((spec_pzWide.f a0_0).bind fun t452 => (if t452 = true then ((spec_pzWide.f a0_1).bind fun t453 => (if t453 = true then ((spec_pzWide.f a0_2).bind fun t454 => (some t454)) else (some false))) else (some false))) = some r := h
 clear h; replace H := Option.bind_eq_some_iff.mp H; obtain ⟨t452, A20, H⟩ := H; (try dsimp only at H); have A2 := Aside0.mk A20; clear A20
 by_cases c3 : t452 = true
 ·subst c3
  rw [if_pos rfl] at H; replace H := Option.bind_eq_some_iff.mp H; obtain ⟨t453, A40, H⟩ := H
  replace H : (if t453 = true then ((spec_pzWide.f a0_2).bind fun t454 => (some t454)) else (some false)) = some r := H
  have A4 := Aside0.mk A40; clear A40
  by_cases c5 : t453 = true
  ·subst c5
   rw [if_pos rfl] at H; replace H := Option.bind_eq_some_iff.mp H; obtain ⟨t454, A60, H⟩ := H
   replace H : (some t454) = some r := H
   have A6 := Aside0.mk A60; clear A60
   obtain rfl := Option.some.inj H
   go_enter Try.func62, Try.ntmps62
   go_wp2_with (first | ((with_reducible refine gate_dst (N := 1) rfl ?_); refine zE 1 #[.int .i64 a0_0, .int .i64 a0_1, .int .i64 a0_2] 41 ?_; intro gb451 hg w7 hbox hb; have BK451 := Aside0.mk (hbox); have GW451 := zg HB hg; have GE451 := GW451; replace HB := zh HB hb; clear hb hbox hg; obtain ⟨_, _, _, _, _, _⟩ := zc3 BK451) | ((with_reducible refine gate_callee (f := 77) rfl ?_); refine zG (some 5) Try.func77 #[.int .i64 a0_0] ?_; (with_reducible refine (spec_pzWide.calls a0_0 true _ A2.out).mono ?_); rintro e w' ⟨rfl, ⟨nd, rfl⟩⟩; refine ⟨_, rfl, ?_⟩) | (go_at_call 77; (with_reducible refine (spec_pzWide.calls a0_1 true _ A4.out).mono ?_); rintro e w' ⟨rfl, ⟨nd, rfl⟩⟩) | (go_at_call 77; (with_reducible refine (spec_pzWide.calls a0_2 t454 _ A6.out).mono ?_); rintro e w' ⟨rfl, ⟨nd, rfl⟩⟩))
   go_ret
   exact ⟨zt, zy HB⟩
  ·replace c5 := Bool.eq_false_iff.mpr c5
   subst c5; rw [if_neg (show ¬ (false = true) by decide)] at H
   obtain rfl := Option.some.inj H
   go_enter Try.func62, Try.ntmps62
   go_wp2_with (first | ((with_reducible refine gate_dst (N := 1) rfl ?_); refine zE 1 #[.int .i64 a0_0, .int .i64 a0_1, .int .i64 a0_2] 41 ?_; intro gb451 hg w9 hbox hb; have BK451 := Aside0.mk (hbox); have GW451 := zg HB hg; have GE451 := GW451; replace HB := zh HB hb; clear hb hbox hg; obtain ⟨_, _, _, _, _, _⟩ := zc3 BK451) | ((with_reducible refine gate_callee (f := 77) rfl ?_); refine zG (some 5) Try.func77 #[.int .i64 a0_0] ?_; (with_reducible refine (spec_pzWide.calls a0_0 true _ A2.out).mono ?_); rintro e w' ⟨rfl, ⟨nd, rfl⟩⟩; refine ⟨_, rfl, ?_⟩) | (go_at_call 77; (with_reducible refine (spec_pzWide.calls a0_1 false _ A4.out).mono ?_); rintro e w' ⟨rfl, ⟨nd, rfl⟩⟩))
   go_ret
   exact ⟨zt, zy HB⟩
 ·replace c3 := Bool.eq_false_iff.mpr c3
  subst c3; rw [if_neg (show ¬ (false = true) by decide)] at H
  obtain rfl := Option.some.inj H
  go_enter Try.func62, Try.ntmps62
  go_wp2_with (first | ((with_reducible refine gate_dst (N := 1) rfl ?_); refine zE 1 #[.int .i64 a0_0, .int .i64 a0_1, .int .i64 a0_2] 41 ?_; intro gb451 hg w11 hbox hb; have BK451 := Aside0.mk (hbox); have GW451 := zg HB hg; have GE451 := GW451; replace HB := zh HB hb; clear hb hbox hg; obtain ⟨_, _, _, _, _, _⟩ := zc3 BK451) | ((with_reducible refine gate_callee (f := 77) rfl ?_); refine zG (some 5) Try.func77 #[.int .i64 a0_0] ?_; (with_reducible refine (spec_pzWide.calls a0_0 false _ A2.out).mono ?_); rintro e w' ⟨rfl, ⟨nd, rfl⟩⟩; refine ⟨_, rfl, ?_⟩))
  go_ret
  exact ⟨zt, zy HB⟩


/-! ### spec_pzNext: function 64 -/
def spec_pzNext.f (a0 : Int) : Option (Int) := some (Int.tmod (wrap64 ((wrap64 (269 * a0)) + 1361)) 10007)
set_option maxHeartbeats 8000000 in
set_option maxRecDepth 100000 in
theorem spec_pzNext.calls (a0 : Int) (r : Int) (w : World) (h : spec_pzNext.f a0 = some r) :
  Calls Try.prog 64 #[.int .i64 a0] w fun e w' => e = .returned (.int .i64 r) ∧ Drawn0 w w' := by
 have H : (some (Int.tmod (wrap64 ((wrap64 (269 * a0)) + 1361)) 10007)) = some r := h
 clear h
 obtain rfl := Option.some.inj H
 go_enter Try.func64, Try.ntmps64
 go_wp2
 go_ret
 exact ⟨by first | rfl | (simp; done) | (simp [*]; done), by repeat (first | exact Drawn0.refl _ | apply Drawn0.step)⟩


/-! ### spec_pzOf: function 65 -/
def spec_pzOf.f (k : Nat) (a0 : Int) (a1 : Int) (a2_0 : Int) (a2_1 : Int) (a2_2 : Int) : Option (Int × Int × Int) := if a0 = 3 then ((spec_pzValue.f k a0 (Int.tmod a1 2) a2_0 a2_1 a2_2).bind fun bt457 => (some (a0, bt457.1, bt457.2))) else ((spec_pzValue.f k a0 0 a2_0 a2_1 a2_2).bind fun bt459 => (some (a0, bt459.1, bt459.2)))
set_option maxHeartbeats 8000000 in
set_option maxRecDepth 100000 in
theorem spec_pzOf.calls (k : Nat) (a0 : Int) (a1 : Int) (a2_0 : Int) (a2_1 : Int) (a2_2 : Int) (r1 : Int) (r2 : Int) (r3 : Int) (w : World) (h : spec_pzOf.f k a0 a1 a2_0 a2_1 a2_2 = some (r1, r2, r3)) :
  Calls Try.prog 65 #[.int .i64 a0, .int .i64 a1, .agg #[.int .i64 a2_0, .int .i64 a2_1, .int .i64 a2_2]] w fun e w' => e = .returned (.agg #[.int .i64 r1, .int .i64 r2, .int .i64 r3]) ∧ Below w.heap.size w w' := by
 have hu41 := Try.underlying41; have hu43 := Try.underlying43
 have HB := Aside0.mk (Below.refl w.heap.size w)
 have H : (if a0 = 3 then ((spec_pzValue.f k a0 (Int.tmod a1 2) a2_0 a2_1 a2_2).bind fun bt457 => (some (a0, bt457.1, bt457.2))) else ((spec_pzValue.f k a0 0 a2_0 a2_1 a2_2).bind fun bt459 => (some (a0, bt459.1, bt459.2)))) = some (r1, r2, r3) := h
 clear h
 by_cases c4 : a0 = 3
 ·rw [if_pos c4] at H
  have c4b0 : (a0 == 3) = true := beq_iff_eq.mpr c4
  have c4b1 : (a0 != 3) = false := bne_eq_false_iff_eq.mpr c4
  clear c4; replace H := Option.bind_eq_some_iff.mp H; obtain ⟨⟨t457, t458⟩, A50, H⟩ := H
  replace H : (some (a0, t457, t458)) = some (r1, r2, r3) := H
  have A5 := Aside0.mk A50; clear A50; simp only [Option.some.injEq, Prod.mk.injEq] at H; obtain ⟨rfl, rfl, rfl⟩ := H
  go_enter Try.func65, Try.ntmps65
  go_wp2_with (first | ((with_reducible refine gate_dst (N := 5) rfl ?_); refine zE 5 #[.int .i64 a2_0, .int .i64 a2_1, .int .i64 a2_2] 41 ?_; intro gb455 hg w6 hbox hb; have BK455 := Aside0.mk (hbox); have GW455 := zg HB hg; have GE455 := GW455; replace HB := zh HB hb; clear hb hbox hg) | ((with_reducible refine gate_dst (N := 6) rfl ?_); refine zE 6 #[.int .i64 0, .int .i64 0, .int .i64 0] 43 ?_; intro gb456 hg w7 hbox hb; have BK456 := Aside0.mk (hbox); have GW456 := zg HB hg; have GE456 := GW456; have NB455_456 := zl BK455 hg; have NB456_455 := zr BK455 hg; replace BK455 := zb BK455 hb; replace HB := zh HB hb; clear hb hbox hg; have hnb8 := NB455_456.out; have hnc8 := NB456_455.out; obtain ⟨_, _, _, _, _, _⟩ := zc3 BK455) | ((with_reducible refine gate_callee (f := 91) rfl ?_); refine zG (some 18) Try.func91 #[.int .i64 a0, .int .i64 (Int.tmod a1 2), .agg #[.int .i64 a2_0, .int .i64 a2_1, .int .i64 a2_2]] ?_; (with_reducible refine (spec_pzValue.calls k a0 (Int.tmod a1 2) a2_0 a2_1 a2_2 t457 t458 _ A5.out).mono ?_); rintro e w10 ⟨rfl, hb⟩; refine ⟨_, rfl, ?_⟩; replace BK455 := zb BK455 hb; replace BK456 := zb BK456 hb; replace HB := zh HB hb; clear hb; obtain ⟨_, _, _, _, _, _⟩ := zc3 BK456))
  refine bodyPost_ret (results_cell_row rfl _ _ gb456 43 #[.int .i64 a0, .int .i64 t457, .int .i64 t458] (0, 0) _ rfl (zw BK456) Try.underlying43 rfl (by kernel_rfl)) rfl ?_
  exact ⟨zt, zy HB⟩
 ·rw [if_neg c4] at H
  have c4b0 : (a0 == 3) = false := beq_eq_false_iff_ne.mpr c4
  have c4b1 : (a0 != 3) = true := bne_iff_ne.mpr c4
  replace H := Option.bind_eq_some_iff.mp H; obtain ⟨⟨t459, t460⟩, A120, H⟩ := H
  replace H : (some (a0, t459, t460)) = some (r1, r2, r3) := H
  have A12 := Aside0.mk A120; clear A120; simp only [Option.some.injEq, Prod.mk.injEq] at H; obtain ⟨rfl, rfl, rfl⟩ := H
  go_enter Try.func65, Try.ntmps65
  go_wp2_with (first | ((with_reducible refine gate_dst (N := 5) rfl ?_); refine zE 5 #[.int .i64 a2_0, .int .i64 a2_1, .int .i64 a2_2] 41 ?_; intro gb455 hg w13 hbox hb; have BK455 := Aside0.mk (hbox); have GW455 := zg HB hg; have GE455 := GW455; replace HB := zh HB hb; clear hb hbox hg) | ((with_reducible refine gate_dst (N := 6) rfl ?_); refine zE 6 #[.int .i64 0, .int .i64 0, .int .i64 0] 43 ?_; intro gb456 hg w14 hbox hb; have BK456 := Aside0.mk (hbox); have GW456 := zg HB hg; have GE456 := GW456; have NB455_456 := zl BK455 hg; have NB456_455 := zr BK455 hg; replace BK455 := zb BK455 hb; replace HB := zh HB hb; clear hb hbox hg; have hnb15 := NB455_456.out; have hnc15 := NB456_455.out; obtain ⟨_, _, _, _, _, _⟩ := zc3 BK455) | ((with_reducible refine gate_callee (f := 91) rfl ?_); refine zG (some 18) Try.func91 #[.int .i64 a0, .int .i64 0, .agg #[.int .i64 a2_0, .int .i64 a2_1, .int .i64 a2_2]] ?_; (with_reducible refine (spec_pzValue.calls k a0 0 a2_0 a2_1 a2_2 t459 t460 _ A12.out).mono ?_); rintro e w17 ⟨rfl, hb⟩; refine ⟨_, rfl, ?_⟩; replace BK455 := zb BK455 hb; replace BK456 := zb BK456 hb; replace HB := zh HB hb; clear hb; obtain ⟨_, _, _, _, _, _⟩ := zc3 BK456))
  refine bodyPost_ret (results_cell_row rfl _ _ gb456 43 #[.int .i64 a0, .int .i64 t459, .int .i64 t460] (0, 0) _ rfl (zw BK456) Try.underlying43 rfl (by kernel_rfl)) rfl ?_
  exact ⟨zt, zy HB⟩


/-! ### spec_MakePuzzle: function 20 -/
mutual
def spec_MakePuzzle.j0 : Nat → Int → Int → Bool → Int → Int → Int → Option (Int × (List (S43)) × Bool)
 | 0, _, _, _, _, _, _ => none
 | k + 1, x1, x2, x23, x462000, x462001, x462002 => if x23 = true then (some (0, ([] : List (S43)), false)) else (spec_MakePuzzle.l0 k x1 x2 x462000 x462001 x462002 x462000 ([] : List (S43)))
def spec_MakePuzzle.l0 : Nat → Int → Int → Int → Int → Int → Int → List (S43) → Option (Int × (List (S43)) × Bool)
 | 0, _, _, _, _, _, _, _ => none
 | k + 1, x1, x9, x462000, x462001, x462002, x467000, x467001 => if x1 > 0 then ((spec_pzNext.f x9).bind fun t467 => ((spec_pzNext.f t467).bind fun t468 => ((spec_pzOf.f k (Int.tmod t467 6) t468 x462000 x462001 x462002).bind fun bt469 => (if x467001.length < 5864062014805 then (spec_MakePuzzle.l0 k (wrap64 (x1 - 1)) t468 x462000 x462001 x462002 x467000 (x467001 ++ [(⟨bt469.1, bt469.2.1, bt469.2.2⟩ : S43)])) else (none))))) else (some (x467000, x467001, true))
end
def spec_MakePuzzle.f (k : Nat) (a0_0 : Int) (a0_1 : Int) (a0_2 : Int) (a1 : Int) (a2 : Int) : Option (Int × (List (S43)) × Bool) := (spec_pzHidden.f a0_0 a0_1 a0_2).bind fun t463 => (if t463 = true then ((spec_l1In.f a1 0 6).bind fun t464 => (if t464 = true then ((spec_l1In.f a2 0 9999).bind fun t465 => (spec_MakePuzzle.j0 k a1 a2 (!t465) a0_0 a0_1 a0_2)) else (spec_MakePuzzle.j0 k a1 a2 true a0_0 a0_1 a0_2))) else (spec_MakePuzzle.j0 k a1 a2 true a0_0 a0_1 a0_2))
def spec_MakePuzzle.T10 : Bool × List (List Nat × List Nat) := (true, [([], []), ([0], [0]), ([], []), ([], []), ([], []), ([2, 3, 4], [2, 3, 4]), ([5], [5]), ([1, 6, 5], [1, 6]), ([0, 1, 2, 3, 4, 5, 6, 7], []), ([8, 7, 7, 0, 1, 2, 3, 4, 5, 6, 7], [7, 8])])
def spec_MakePuzzle.B10 : List Nat := [0, 1, 0, 0, 0, 28, 60, 127, 255, 511]
theorem spec_MakePuzzle.tab10 : rtab .any (opsOf Try.f20 10) = spec_MakePuzzle.T10 := by kernel_rfl
theorem spec_MakePuzzle.bits10 : waitsOk spec_MakePuzzle.T10.2 spec_MakePuzzle.B10 = true := by kernel_rfl
set_option maxHeartbeats 8000000 in
set_option maxRecDepth 100000 in
theorem spec_MakePuzzle.calls (k : Nat) (a0_0 : Int) (a0_1 : Int) (a0_2 : Int) (a1 : Int) (a2 : Int) (r1 : Int) (r2 : List (S43)) (r3 : Bool) (w : World) (h : spec_MakePuzzle.f k a0_0 a0_1 a0_2 a1 a2 = some (r1, r2, r3)) :
  Calls Try.prog 20 #[.agg #[.int .i64 a0_0, .int .i64 a0_1, .int .i64 a0_2], .int .i64 a1, .int .i64 a2] w fun e w' => ∃ v1_ : Value, e = .returned (.tuple #[.agg #[.int .i64 r1, v1_], .bool r3]) ∧ Kd.R k43 43 w' w.heap.size (fun _ => True) v1_ r2 ∧ Below w.heap.size w w' := by
 have hu41 := Try.underlying41; have hu28 := Try.underlying28
 have HB := Aside0.mk (Below.refl w.heap.size w)
 have H : ((spec_pzHidden.f a0_0 a0_1 a0_2).bind fun t463 => (if t463 = true then ((spec_l1In.f a1 0 6).bind fun t464 => (if t464 = true then ((spec_l1In.f a2 0 9999).bind fun t465 => (spec_MakePuzzle.j0 k a1 a2 (!t465) a0_0 a0_1 a0_2)) else (spec_MakePuzzle.j0 k a1 a2 true a0_0 a0_1 a0_2))) else (spec_MakePuzzle.j0 k a1 a2 true a0_0 a0_1 a0_2))) = some (r1, r2, r3) := h
 clear h; have HC4 := Aside0.mk H; clear H
 go_enter Try.func20, Try.ntmps20
 go_upto_region 1 with (first | ((with_reducible refine gate_dst (N := 3) rfl ?_); refine zE 3 #[.int .i64 a0_0, .int .i64 a0_1, .int .i64 a0_2] 41 ?_; intro gb461 hg w5 hbox hb; have BK461 := Aside0.mk (hbox); have GW461 := zg HB hg; have GE461 := GW461; replace HB := zh HB hb; clear hb hbox hg) | ((with_reducible refine gate_dst (N := 6) rfl ?_); refine zE 6 #[.int .i64 0, .slice none 0 0] 28 ?_; intro gb462 hg w6 hbox hb; have BK462 := Aside0.mk (hbox); have GW462 := zg HB hg; have GE462 := GW462; have NB461_462 := zl BK461 hg; have NB462_461 := zr BK461 hg; replace BK461 := zb BK461 hb; replace HB := zh HB hb; clear hb hbox hg))
 (try simp only [Act.put, List.setIfInBounds_toArray, List.set_cons_zero, List.set_cons_succ])
 go_cut [23] (fun v23 wc => ∃ (kq : Nat) (x23_3 : Bool), v23 = .bool x23_3 ∧ Aside0 (spec_MakePuzzle.j0 kq a1 a2 x23_3 a0_0 a0_1 a0_2 = some (r1, r2, r3)) ∧ Aside0 (kq ≤ k) ∧ Aside0 (wc.heap[gb461]? = some (.cells #[.int .i64 a0_0, .int .i64 a0_1, .int .i64 a0_2] 41 (0, 0))) ∧ Aside0 (wc.heap[gb462]? = some (.cells #[.int .i64 0, (.slice none 0 0)] 28 (0, 0))) ∧ Aside0 (Below w.heap.size w wc))
 case first =>
  have H := HC4.out; clear HC4; replace H := Option.bind_eq_some_iff.mp H; obtain ⟨t463, A70, H⟩ := H; (try dsimp only at H); have A7 := Aside0.mk A70; clear A70
  by_cases c8 : t463 = true
  ·subst c8
   rw [if_pos rfl] at H; replace H := Option.bind_eq_some_iff.mp H; obtain ⟨t464, A90, H⟩ := H; (try dsimp only at H); have A9 := Aside0.mk A90; clear A90
   by_cases c10 : t464 = true
   ·subst c10
    rw [if_pos rfl] at H; replace H := Option.bind_eq_some_iff.mp H; obtain ⟨t465, A110, H⟩ := H
    replace H : (spec_MakePuzzle.j0 k a1 a2 (!t465) a0_0 a0_1 a0_2) = some (r1, r2, r3) := H
    have A11 := Aside0.mk A110; clear A110; have H' := Aside0.mk H; clear H; have hnb12 := NB461_462.out; have hnc12 := NB462_461.out
    obtain ⟨_, _, _, _, _, _⟩ := zc3 BK461
    go_wp2_with (first | ((with_reducible refine gate_callee (f := 62) rfl ?_); refine zG (some 12) Try.func62 #[.agg #[.int .i64 a0_0, .int .i64 a0_1, .int .i64 a0_2]] ?_; (with_reducible refine (spec_pzHidden.calls a0_0 a0_1 a0_2 true _ A7.out).mono ?_); rintro e w14 ⟨rfl, hb⟩; refine ⟨_, rfl, ?_⟩; replace BK461 := zb BK461 hb; replace BK462 := zb BK462 hb; replace HB := zh HB hb; clear hb) | (go_at_call 63; (with_reducible refine (spec_l1In.calls a1 0 6 true _ A9.out).mono ?_); rintro e w' ⟨rfl, ⟨nd, rfl⟩⟩) | (go_at_call 63; (with_reducible refine (spec_l1In.calls a2 0 9999 t465 _ A11.out).mono ?_); rintro e w' ⟨rfl, ⟨nd, rfl⟩⟩))
    go_meet
    case rel => exact ⟨_, (!t465), zu, H', ⟨by first | omega | exact Nat.le_refl _⟩, zk BK461, zk BK462, ⟨zy HB⟩⟩
   ·replace c10 := Bool.eq_false_iff.mpr c10
    subst c10; rw [if_neg (show ¬ (false = true) by decide)] at H; have H' := Aside0.mk H; clear H; have hnb15 := NB461_462.out; have hnc15 := NB462_461.out
    obtain ⟨_, _, _, _, _, _⟩ := zc3 BK461
    go_wp2_with (first | ((with_reducible refine gate_callee (f := 62) rfl ?_); refine zG (some 12) Try.func62 #[.agg #[.int .i64 a0_0, .int .i64 a0_1, .int .i64 a0_2]] ?_; (with_reducible refine (spec_pzHidden.calls a0_0 a0_1 a0_2 true _ A7.out).mono ?_); rintro e w17 ⟨rfl, hb⟩; refine ⟨_, rfl, ?_⟩; replace BK461 := zb BK461 hb; replace BK462 := zb BK462 hb; replace HB := zh HB hb; clear hb) | (go_at_call 63; (with_reducible refine (spec_l1In.calls a1 0 6 false _ A9.out).mono ?_); rintro e w' ⟨rfl, ⟨nd, rfl⟩⟩))
    go_meet
    case rel => exact ⟨_, (true), zu, H', ⟨by first | omega | exact Nat.le_refl _⟩, zk BK461, zk BK462, ⟨zy HB⟩⟩
  ·replace c8 := Bool.eq_false_iff.mpr c8
   subst c8; rw [if_neg (show ¬ (false = true) by decide)] at H; have H' := Aside0.mk H; clear H; have hnb18 := NB461_462.out; have hnc18 := NB462_461.out
   obtain ⟨_, _, _, _, _, _⟩ := zc3 BK461
   go_wp2_with (first | ((with_reducible refine gate_callee (f := 62) rfl ?_); refine zG (some 12) Try.func62 #[.agg #[.int .i64 a0_0, .int .i64 a0_1, .int .i64 a0_2]] ?_; (with_reducible refine (spec_pzHidden.calls a0_0 a0_1 a0_2 false _ A7.out).mono ?_); rintro e w20 ⟨rfl, hb⟩; refine ⟨_, rfl, ?_⟩; replace BK461 := zb BK461 hb; replace BK462 := zb BK462 hb; replace HB := zh HB hb; clear hb))
   go_meet
   case rel => exact ⟨_, (true), zu, H', ⟨by first | omega | exact Nat.le_refl _⟩, zk BK461, zk BK462, ⟨zy HB⟩⟩
 case rest =>
  clear HC4
  obtain ⟨kq, x23_3, rfl, HA, HJ3, BK461, BK462, HB⟩ := hcut
  cases kq with
  | zero => exact absurd HA.out (by simp [spec_MakePuzzle.j0])
  | succ kj3 =>
   have H := HA.out; clear HA; simp only [spec_MakePuzzle.j0] at H
   by_cases c21 : x23_3 = true
   ·subst c21
    rw [if_pos rfl] at H; simp only [Option.some.injEq, Prod.mk.injEq] at H; obtain ⟨rfl, rfl, rfl⟩ := H; have hnb22 := NB462_461.out; have hnc22 := NB461_462.out
    obtain ⟨_, _, _, _⟩ := zc2 BK462
    go_wp2
    refine bodyPost_ret (results_ct rfl _ _ gb462 28 #[.int .i64 0, .slice none 0 0] (0, 0) _ rfl (zw BK462) Try.underlying28 rfl (by kernel_rfl)) rfl ?_
    exact ⟨_, zt, by first | exact Kd.R_nil _ _ _ _ _ | exact Kd.N_nil _ _ _ _ _ | exact Kd.V_nil _ _ _ _ _ | exact Kd.Q_nil _ _ _ _ _ | exact Kd.S_nil _ _ _ _ _, zy HB⟩
   ·replace c21 := Bool.eq_false_iff.mpr c21
    subst c21; rw [if_neg (show ¬ (false = true) by decide)] at H; have H' := Aside0.mk H; clear H; have hnb24 := NB461_462.out; have hnc24 := NB462_461.out
    obtain ⟨_, _, _, _, _, _⟩ := zc3 BK461
    go_wp2_with (first | ((with_reducible refine gate_dst (N := 8) rfl ?_); refine zE 8 #[.int .i64 0, .slice none 0 0] 28 ?_; intro gb466 hg w26 hbox hb; have BK466 := Aside0.mk (hbox); have GW466 := zg HB hg; have GE466 := GW466; have NB461_466 := zl BK461 hg; have NB466_461 := zr BK461 hg; have NB462_466 := zl BK462 hg; have NB466_462 := zr BK462 hg; replace BK461 := zb BK461 hb; replace BK462 := zb BK462 hb; replace HB := zh HB hb; clear hb hbox hg; have hnb27 := NB466_461.out; have hnc27 := NB461_466.out; have hnb28 := NB466_462.out; have hnc28 := NB462_466.out; obtain ⟨_, _, _, _⟩ := zc2 BK466))
    go_loopg [1, 9] kj3 (fun kq v1 v9 w' => ∃ (x1_2 : Int) (x9_2 : Int) (x467001_2 : List (S43)) (u467001 : Value), v1 = .int .i64 x1_2 ∧ v9 = .int .i64 x9_2 ∧ Aside0 (spec_MakePuzzle.l0 kq x1_2 x9_2 a0_0 a0_1 a0_2 a0_0 x467001_2 = some (r1, r2, r3)) ∧ Aside0 (kq ≤ kj3) ∧ Aside0 (Kd.R k43 43 w' w.heap.size (fun _ => True) u467001 x467001_2) ∧ Aside0 (w'.heap[gb461]? = some (.cells #[.int .i64 a0_0, .int .i64 a0_1, .int .i64 a0_2] 41 (0, 0))) ∧ Aside0 (w'.heap[gb462]? = some (.cells #[.int .i64 0, (.slice none 0 0)] 28 (0, 0))) ∧ Aside0 (w'.heap[gb466]? = some (.cells #[.int .i64 a0_0, u467001] 28 (0, 0))) ∧ Aside0 (Below w.heap.size w w'))
    case atStart => exact ⟨(a1), (a2), (([] : List (S43))), (.slice none 0 0), zu, zu, H', ⟨Nat.le_refl _⟩, ⟨by first | exact Kd.R_nil _ _ _ _ _ | exact Kd.N_nil _ _ _ _ _ | exact Kd.V_nil _ _ _ _ _ | exact Kd.Q_nil _ _ _ _ _ | exact Kd.S_nil _ _ _ _ _⟩, zk BK461, zk BK462, ⟨zw BK466⟩, ⟨zy HB⟩⟩
    case round =>
     clear H'
     obtain ⟨x1_2, x9_2, x467001_2, u467001, rfl, rfl, HA, HK2, HO_467001, BK461, BK462, BK466, HB⟩ := hrel
     cases gk with
     | zero => exact absurd HA.out (by simp [spec_MakePuzzle.l0])
     | succ k2 =>
      have H := HA.out; clear HA; simp only [spec_MakePuzzle.l0] at H
      by_cases c30 : x1_2 > 0
      ·rw [if_pos c30] at H
       have c30b0 : decide (0 < x1_2) = true := decide_eq_true c30; clear c30; replace H := Option.bind_eq_some_iff.mp H; obtain ⟨t467, A310, H⟩ := H; (try dsimp only at H); have A31 := Aside0.mk A310; clear A310; replace H := Option.bind_eq_some_iff.mp H; obtain ⟨t468, A320, H⟩ := H; (try dsimp only at H); have A32 := Aside0.mk A320; clear A320; replace H := Option.bind_eq_some_iff.mp H; obtain ⟨⟨t469, t470, t471⟩, A330, H⟩ := H; (try dsimp only at H); have A33 := Aside0.mk A330; clear A330
       by_cases c34 : x467001_2.length < 5864062014805
       ·rw [if_pos c34] at H
        have LMc34 := Aside0.mk c34; clear c34
        obtain ⟨y472, hy472⟩ : ∃ y_ : List (S43), y_ = (x467001_2 ++ [(⟨t469, t470, t471⟩ : S43)]) := ⟨_, rfl⟩
        replace H : (spec_MakePuzzle.l0 k2 (wrap64 (x1_2 - 1)) t468 a0_0 a0_1 a0_2 a0_0 y472) = some (r1, r2, r3) := by first | (rw [hy472]; with_reducible exact H) | (have H2_ := (Option.bind_some _ _).symm.trans H; rw [hy472]; with_reducible exact H2_) | (have H2_ := (Option.bind_some _ _).symm.trans H; with_reducible exact H2_) | with_reducible exact H | (rw [hy472]; exact H) | exact H
        have Ny472 := Aside0.mk hy472; clear hy472; have H' := Aside0.mk H; clear H
        try go_wp2_with (first | ((with_reducible refine gate_callee (f := 64) rfl ?_); refine zG (some 34) Try.func64 #[.int .i64 x9_2] ?_; (with_reducible refine (spec_pzNext.calls x9_2 t467 _ A31.out).mono ?_); rintro e w' ⟨rfl, ⟨nd, rfl⟩⟩; refine ⟨_, rfl, ?_⟩; (try (rw [drewN_self wr]; generalize hq_ : World.drewN wr _ = wr; have n0_ : Aside0 (Kd.R k43 43 wr w.heap.size (fun _ => True) u467001 x467001_2) := ⟨by rw [← hq_]; exact (zs HO_467001)⟩; have n1_ : Aside0 (wr.heap[gb461]? = some (.cells #[.int .i64 a0_0, .int .i64 a0_1, .int .i64 a0_2] 41 (0, 0))) := ⟨by rw [← hq_]; exact (zq BK461)⟩; have n2_ : Aside0 (wr.heap[gb462]? = some (.cells #[.int .i64 0, .slice none 0 0] 28 (0, 0))) := ⟨by rw [← hq_]; exact (zq BK462)⟩; have n3_ : Aside0 (wr.heap[gb466]? = some (.cells #[.int .i64 a0_0, u467001] 28 (0, 0))) := ⟨by rw [← hq_]; exact (zq BK466)⟩; have n4_ : Aside0 (Below w.heap.size w wr) := ⟨by rw [← hq_]; exact (zy HB)⟩; clear HO_467001 BK461 BK462 BK466 HB hq_; have HO_467001 := n0_; have BK461 := n1_; have BK462 := n2_; have BK466 := n3_; have HB := n4_; clear n0_ n1_ n2_ n3_ n4_))) | ((with_reducible refine gate_callee (f := 64) rfl ?_); refine zG (some 38) Try.func64 #[.int .i64 t467] ?_; (with_reducible refine (spec_pzNext.calls t467 t468 _ A32.out).mono ?_); rintro e w' ⟨rfl, ⟨nd, rfl⟩⟩; refine ⟨_, rfl, ?_⟩; (try (rw [drewN_self wr]; generalize hq_ : World.drewN wr _ = wr; have n0_ : Aside0 (Kd.R k43 43 wr w.heap.size (fun _ => True) u467001 x467001_2) := ⟨by rw [← hq_]; exact (zs HO_467001)⟩; have n1_ : Aside0 (wr.heap[gb461]? = some (.cells #[.int .i64 a0_0, .int .i64 a0_1, .int .i64 a0_2] 41 (0, 0))) := ⟨by rw [← hq_]; exact (zq BK461)⟩; have n2_ : Aside0 (wr.heap[gb462]? = some (.cells #[.int .i64 0, .slice none 0 0] 28 (0, 0))) := ⟨by rw [← hq_]; exact (zq BK462)⟩; have n3_ : Aside0 (wr.heap[gb466]? = some (.cells #[.int .i64 a0_0, u467001] 28 (0, 0))) := ⟨by rw [← hq_]; exact (zq BK466)⟩; have n4_ : Aside0 (Below w.heap.size w wr) := ⟨by rw [← hq_]; exact (zy HB)⟩; clear HO_467001 BK461 BK462 BK466 HB hq_; have HO_467001 := n0_; have BK461 := n1_; have BK462 := n2_; have BK466 := n3_; have HB := n4_; clear n0_ n1_ n2_ n3_ n4_))))
        replace HO_467001 := Aside0.mk (Kd.R_drew HO_467001.out); replace BK461 := Aside0.mk (blk_drew BK461.out); replace BK462 := Aside0.mk (blk_drew BK462.out); replace BK466 := Aside0.mk (blk_drew BK466.out); replace HB := Aside0.mk (below_drew1 HB.out)
        refine start_ (n := 10) (S := fun w' => w'.cell? ⟨gb466, 0, none⟩ = some (.int .i64 a0_0) ∧ w'.cell? ⟨gb466, 1, none⟩ = some (u467001) ∧ w'.cell? ⟨gb461, 0, none⟩ = some (.int .i64 a0_0) ∧ w'.cell? ⟨gb461, 1, none⟩ = some (.int .i64 a0_1) ∧ w'.cell? ⟨gb461, 2, none⟩ = some (.int .i64 a0_2)) (ds := [9]) #[false, false, false, false, false, false, false, false, false, false] (by kernel_rfl) rfl rfl ⟨(blk_cell BK466.out 0).trans rfl, (blk_cell BK466.out 1).trans rfl, (blk_cell BK461.out 0).trans rfl, (blk_cell BK461.out 1).trans rfl, (blk_cell BK461.out 2).trans rfl⟩ (fun hHeld => ?_); refine with_tabW spec_MakePuzzle.tab10 spec_MakePuzzle.bits10 (fun HT_ HW_ => ?_)
        generalize wr.drew = w35 at HO_467001 BK461 BK462 BK466 HB hHeld ⊢
        refine zA 0 39 HT_ ?_
        refine zA 2 41 HT_ ?_
        refine zA 3 42 HT_ ?_
        refine zT 1 40 HT_ HW_ hHeld ?_
        refine zT 4 43 HT_ HW_ hHeld ?_
        refine zO 5 (some 44) HT_ (fun K hK => ?_)
        refine goes_ Try.func65 (by kernel_rfl) rfl #[.int .i64 (Int.tmod t467 6), .int .i64 t468, .agg #[.int .i64 a0_0, .int .i64 a0_1, .int .i64 a0_2]] (by rfl) rfl rfl zO1_1 ?_
        with_reducible refine (spec_pzOf.calls k2 (Int.tmod t467 6) t468 a0_0 a0_1 a0_2 t469 t470 t471 _ A33.out).mono ?_
        rintro e w36 ⟨rfl, hb⟩
        refine ⟨_, rfl, ?_⟩
        replace HO_467001 := zo HO_467001 hb; replace BK461 := zb BK461 hb; replace BK462 := zb BK462 hb; replace BK466 := zb BK466 hb; replace HB := zh HB hb
        (try clear hb)
        (try clear hb2)
        (try clear hk)
        (try clear hi)
        refine hK.out _ _ ⟨(blk_cell BK466.out 0).trans rfl, (blk_cell BK466.out 1).trans rfl, (blk_cell BK461.out 0).trans rfl, (blk_cell BK461.out 1).trans rfl, (blk_cell BK461.out 2).trans rfl⟩ (fun hHeld => ?_)
        clear hK K
        refine zN 44 ?_
        refine zO 6 (some 45) HT_ (fun K hK => ?_)
        refine value_ (w1 := ?_) (v := ?_) (by rfl) rfl ?_ ?_
        rotate_left 2
        ·go_simp
         constructor
         ·rfl
         ·rfl
        refine hK.out _ _ ⟨(blk_cell (blk_alloc BK466.out _) 0).trans rfl, (blk_cell (blk_alloc BK466.out _) 1).trans rfl, (blk_cell (blk_alloc BK461.out _) 0).trans rfl, (blk_cell (blk_alloc BK461.out _) 1).trans rfl, (blk_cell (blk_alloc BK461.out _) 2).trans rfl⟩ (fun hHeld => ?_)
        clear hK K
        refine zN 45 ?_
        refine zO 7 (some 46) HT_ (fun K hK => ?_)
        refine Kd.R_append_step k43 (w0 := w) w.heap.size (by rfl) (.tmp 40) (.tmp 45) 26 43 (.agg #[(.int .i64 0), (.int .i64 0), (.int .i64 0)]) 24 rfl Try.underlying26 info43 rfl (by decide) (by omega) u467001 x467001_2 (⟨t469, t470, t471⟩ : S43) [.int .i64 t469, .int .i64 t470, .int .i64 t471] (fun _ => True) (fun _ => False) rfl rfl ?aP (fun _ hk => hk.elim) ?aF ?aO ?aB ?aS ?aL ?_
        (case aP => exact k43_mkM _ _ _ (⟨t469, t470, t471⟩ : S43))
        (case aB => exact (zy HB))
        (case aF => exact (fun _ _ => trivial))
        (case aO => exact (zs HO_467001))
        (case aS => exact (below_size (zy HB)))
        (case aL => have := LMc34.out; omega)
        intro v473 w37 ho hb hg hat
        rw [← Ny472.out] at ho
        have n0_ := Aside0.mk (blk_grown (zq BK461) hg (Kd.R_ne HO_467001.out BK461.out (by decide)))
        have n1_ := Aside0.mk (blk_grown (zq BK462) hg (Kd.R_ne HO_467001.out BK462.out (by decide)))
        have n2_ := Aside0.mk (blk_grown (zq BK466) hg (Kd.R_ne HO_467001.out BK466.out (by decide)))
        have HO474 := Aside0.mk (ho)
        replace HB := Aside0.mk hb
        clear HO_467001; clear BK461; have BK461 := n0_; clear n0_; clear BK462; have BK462 := n1_; clear n1_; clear BK466; have BK466 := n2_; clear n2_; clear ho hb hg hat
        obtain ⟨Ao38, co38, eo38⟩ := Kd.R_slice HO474.out
        (first | subst eo38 | (injection eo38 with f1_ f2_ f3_; have f4_ := f1_.symm; have f5_ := f3_.symm; clear f1_ f2_ f3_; subst f4_; subst f5_))
        refine hK.out _ _ ⟨(blk_cell BK466.out 0).trans rfl, (blk_cell BK466.out 1).trans rfl, (blk_cell BK461.out 0).trans rfl, (blk_cell BK461.out 1).trans rfl, (blk_cell BK461.out 2).trans rfl⟩ (fun hHeld => ?_)
        clear hK K
        refine zN 46 ?_
        refine zA 8 47 HT_ ?_
        refine last_ (i := 9) (N := none) #[true, true, true, true, true, true, true, true, true, true] rfl rfl (one_of HT_.out (by kernel_rfl)) (by decide) (fun K hK => ?_)
        have hs39 : w37.cell? ⟨gb466, 1, none⟩ = some (u467001) := (blk_cell BK466.out 1).trans rfl
        have hfs39 := blk_frozen BK466.out 1
        have hns39_0 := NB461_466.out; have hns39_1 := NB462_466.out; have hms39_0 := NB466_461.out; have hms39_1 := NB466_462.out
        refine skip_ (w1 := ?_) (by rfl) rfl ?_ ?_
        rotate_left
        ·go_simp
         rfl
        refine hK.out _ _ ?_
        clear hK K
        refine done_ (done_of HT_.out (by kernel_rfl)) ?_
        try go_wp2
        go_roundg k2
        case measure => have := HJ3.out; have := HK2.out; omega
        case rel => exact ⟨(wrap64 (x1_2 - 1)), (t468), (y472), (.slice Ao38 y472.length co38), zu, zu, H', ⟨by have := HJ3.out; have := HK2.out; omega⟩, ⟨by (with_reducible repeat (first | apply Kd.R_alloc | apply Kd.R_drewN | apply Kd.R_drew)); exact Kd.R_mono (Kd.R_far (p := ⟨gb466, 1, none⟩) (Kd.R_types HO474.out BK466.out (by decide)) (fun _ hk => hk.2) (.slice Ao38 y472.length co38)) (fun _ hk => trivial)⟩, zk BK461, zk BK462, ⟨zw BK466⟩, ⟨zy HB⟩⟩
       ·rw [if_neg c34] at H
        exact absurd H zO1_7
      ·rw [if_neg c30] at H
       have c30b0 : decide (0 < x1_2) = false := decide_eq_false c30; clear c30; simp only [Option.some.injEq, Prod.mk.injEq] at H; obtain ⟨rfl, rfl, rfl⟩ := H; have hnb40 := NB466_461.out; have hnc40 := NB461_466.out; have hnb41 := NB466_462.out; have hnc41 := NB462_466.out
       obtain ⟨_, _, _, _⟩ := zc2 BK466
       have hnb43 := NB462_461.out; have hnc43 := NB461_462.out
       obtain ⟨_, _, _, _⟩ := zc2 BK462
       obtain ⟨Ao45, co45, eo45⟩ := Kd.R_slice HO_467001.out
       subst eo45
       go_wp2
       refine bodyPost_ret (results_ct rfl _ _ gb462 28 #[.int .i64 a0_0, .slice Ao45 x467001_2.length co45] (0, 0) _ rfl (zw BK462) Try.underlying28 rfl (by kernel_rfl)) rfl ?_
       exact ⟨_, zt, by (with_reducible repeat (first | apply Kd.R_alloc | apply Kd.R_drewN | apply Kd.R_drew)); exact Kd.R_mono (Kd.R_far (p := ⟨gb462, 1, none⟩) (Kd.R_far (p := ⟨gb462, 0, none⟩) (Kd.R_types HO_467001.out BK462.out (by decide)) (fun _ hk => hk.2) (.int .i64 a0_0)) (fun _ hk => hk.2) (.slice Ao45 x467001_2.length co45)) (fun _ hk => trivial), zy HB⟩


attribute [local go_sem high] eqA43
/-! ### laws_jPuzzle: function 21 -/
mutual
def laws_jPuzzle.j0 : Nat → Bool → Int → List (S43) → Int → List (S43) → Option (Bool)
 | 0, _, _, _, _, _ => none
 | k + 1, x19, x476000, x476001, x477000, x477001 => if x19 = true then (some false) else (laws_jPuzzle.l0 k (x476001.length : Int) 0 x476000 x476001 x477000 x477001)
def laws_jPuzzle.l0 : Nat → Int → Int → Int → List (S43) → Int → List (S43) → Option (Bool)
 | 0, _, _, _, _, _, _ => none
 | k + 1, x22, x23, x476000, x476001, x477000, x477001 => if x23 < x22 then (if 0 ≤ x23 then (if x23 < (x476001.length : Int) then (if x23 < (x477001.length : Int) then (if (!(((rd_T43 x476001 x23).f0) == ((rd_T43 x477001 x23).f0)) || (!(((rd_T43 x476001 x23).f1) == ((rd_T43 x477001 x23).f1)) || (!(((rd_T43 x476001 x23).f2) == ((rd_T43 x477001 x23).f2))))) = true then (some false) else (laws_jPuzzle.l0 k x22 (wrap64 (x23 + 1)) x476000 x476001 x477000 x477001)) else (none)) else (none)) else (none)) else (some true)
end
def laws_jPuzzle.f (k : Nat) (a0_0 : Int) (l0_1 : List (S43)) (a1_0 : Int) (l1_1 : List (S43)) : Option (Bool) := if a0_0 = a1_0 then (laws_jPuzzle.j0 k ((l0_1.length : Int) != (l1_1.length : Int)) a0_0 l0_1 a1_0 l1_1) else (laws_jPuzzle.j0 k true a0_0 l0_1 a1_0 l1_1)
set_option maxHeartbeats 8000000 in
set_option maxRecDepth 100000 in
theorem laws_jPuzzle.calls (k : Nat) (a0_0 : Int) (A0_1 : Option Addr) (c0_1 : Nat) (l0_1 : List (S43)) (a1_0 : Int) (A1_1 : Option Addr) (c1_1 : Nat) (l1_1 : List (S43)) (r : Bool) (w : World) (hr0_1 : Kd.C k43 w A0_1 l0_1.length l0_1) (hc0_1 : l0_1.length ≤ c0_1) (hr1_1 : Kd.C k43 w A1_1 l1_1.length l1_1) (hc1_1 : l1_1.length ≤ c1_1) (h : laws_jPuzzle.f k a0_0 l0_1 a1_0 l1_1 = some r) :
  Calls Try.prog 21 #[.agg #[.int .i64 a0_0, .slice A0_1 l0_1.length c0_1], .agg #[.int .i64 a1_0, .slice A1_1 l1_1.length c1_1]] w fun e w' => e = .returned (.bool r) ∧ Below w.heap.size w w' := by
 have hu28 := Try.underlying28; have hu43 := Try.underlying43; have HR0_1 := Aside0.mk hr0_1; have HC0_1 := Aside0.mk hc0_1; clear hr0_1 hc0_1; have HR1_1 := Aside0.mk hr1_1; have HC1_1 := Aside0.mk hc1_1; clear hr1_1 hc1_1
 have HB := Aside0.mk (Below.refl w.heap.size w)
 have H : (if a0_0 = a1_0 then (laws_jPuzzle.j0 k ((l0_1.length : Int) != (l1_1.length : Int)) a0_0 l0_1 a1_0 l1_1) else (laws_jPuzzle.j0 k true a0_0 l0_1 a1_0 l1_1)) = some r := h
 clear h; have HC3 := Aside0.mk H; clear H
 go_enter Try.func21, Try.ntmps21
 go_upto_region 1 with (first | ((with_reducible refine gate_dst (N := 2) rfl ?_); (try (refine gate_guard (by rfl) ?_; dsimp only)); refine zE 2 #[.int .i64 a0_0, .slice A0_1 l0_1.length c0_1] 28 ?_; intro gb475 hg w4 hbox hb; have BK475 := Aside0.mk (hbox); have GW475 := zg HB hg; have GE475 := GW475; replace HB := zh HB hb; clear hb hbox hg) | ((with_reducible refine gate_dst (N := 3) rfl ?_); (try (refine gate_guard (by rfl) ?_; dsimp only)); refine zE 3 #[.int .i64 a1_0, .slice A1_1 l1_1.length c1_1] 28 ?_; intro gb476 hg w5 hbox hb; have BK476 := Aside0.mk (hbox); have GW476 := zg HB hg; have GE476 := GW476; have NB475_476 := zl BK475 hg; have NB476_475 := zr BK475 hg; replace BK475 := zb BK475 hb; replace HB := zh HB hb; clear hb hbox hg))
 repeat (go_quiet (first | ((with_reducible refine gate_dst (N := 2) rfl ?_); (try (refine gate_guard (by rfl) ?_; dsimp only)); refine zE 2 #[.int .i64 a0_0, .slice A0_1 l0_1.length c0_1] 28 ?_; intro gb475 hg w4 hbox hb; have BK475 := Aside0.mk (hbox); have GW475 := zg HB hg; have GE475 := GW475; replace HB := zh HB hb; clear hb hbox hg) | ((with_reducible refine gate_dst (N := 3) rfl ?_); (try (refine gate_guard (by rfl) ?_; dsimp only)); refine zE 3 #[.int .i64 a1_0, .slice A1_1 l1_1.length c1_1] 28 ?_; intro gb476 hg w5 hbox hb; have BK476 := Aside0.mk (hbox); have GW476 := zg HB hg; have GE476 := GW476; have NB475_476 := zl BK475 hg; have NB476_475 := zr BK475 hg; replace BK475 := zb BK475 hb; replace HB := zh HB hb; clear hb hbox hg)); go_upto_region 1 with (first | ((with_reducible refine gate_dst (N := 2) rfl ?_); (try (refine gate_guard (by rfl) ?_; dsimp only)); refine zE 2 #[.int .i64 a0_0, .slice A0_1 l0_1.length c0_1] 28 ?_; intro gb475 hg w4 hbox hb; have BK475 := Aside0.mk (hbox); have GW475 := zg HB hg; have GE475 := GW475; replace HB := zh HB hb; clear hb hbox hg) | ((with_reducible refine gate_dst (N := 3) rfl ?_); (try (refine gate_guard (by rfl) ?_; dsimp only)); refine zE 3 #[.int .i64 a1_0, .slice A1_1 l1_1.length c1_1] 28 ?_; intro gb476 hg w5 hbox hb; have BK476 := Aside0.mk (hbox); have GW476 := zg HB hg; have GE476 := GW476; have NB475_476 := zl BK475 hg; have NB476_475 := zr BK475 hg; replace BK475 := zb BK475 hb; replace HB := zh HB hb; clear hb hbox hg)))
 (try simp only [Act.put, List.setIfInBounds_toArray, List.set_cons_zero, List.set_cons_succ])
 go_cut [19] (fun v19 wc => ∃ (kq : Nat) (x19_2 : Bool), v19 = .bool x19_2 ∧ Aside0 (laws_jPuzzle.j0 kq x19_2 a0_0 l0_1 a1_0 l1_1 = some r) ∧ Aside0 (kq ≤ k) ∧ Aside0 (wc.heap[gb475]? = some (.cells #[.int .i64 a0_0, (.slice A0_1 l0_1.length c0_1)] 28 (0, 0))) ∧ Aside0 (wc.heap[gb476]? = some (.cells #[.int .i64 a1_0, (.slice A1_1 l1_1.length c1_1)] 28 (0, 0))) ∧ Aside0 (Below w.heap.size w wc))
 case first =>
  have H := HC3.out; clear HC3
  by_cases c6 : a0_0 = a1_0
  ·rw [if_pos c6] at H
   have c6b0 : (a0_0 == a1_0) = true := beq_iff_eq.mpr c6
   have c6b1 : (a0_0 != a1_0) = false := bne_eq_false_iff_eq.mpr c6
   clear c6
   (first | rw [c6b0] | (simp only [i64_w, i32_w]; rw [c6b0]) | skip)
   have H' := Aside0.mk H; clear H; have hnb7 := NB475_476.out; have hnc7 := NB476_475.out
   obtain ⟨_, _, _, _⟩ := zc2 BK475
   obtain ⟨_, _, _, _⟩ := zc2 BK476
   go_wp2
   repeat (go_quiet (fail); try go_wp2)
   go_meet
   case rel => exact ⟨_, (((l0_1.length : Int) != (l1_1.length : Int))), zu, H', ⟨by first | omega | exact Nat.le_refl _⟩, zk BK475, zk BK476, ⟨zy HB⟩⟩
  ·rw [if_neg c6] at H
   have c6b0 : (a0_0 == a1_0) = false := beq_eq_false_iff_ne.mpr c6
   have c6b1 : (a0_0 != a1_0) = true := bne_iff_ne.mpr c6
   (first | rw [c6b0] | (simp only [i64_w, i32_w]; rw [c6b0]) | skip)
   have H' := Aside0.mk H; clear H; have hnb10 := NB475_476.out; have hnc10 := NB476_475.out
   obtain ⟨_, _, _, _⟩ := zc2 BK475
   obtain ⟨_, _, _, _⟩ := zc2 BK476
   go_wp2
   repeat (go_quiet (fail); try go_wp2)
   go_meet
   case rel => exact ⟨_, (true), zu, H', ⟨by first | omega | exact Nat.le_refl _⟩, zk BK475, zk BK476, ⟨zy HB⟩⟩
 case rest =>
  clear HC3
  obtain ⟨kq, x19_2, rfl, HA, HJ2, BK475, BK476, HB⟩ := hcut
  cases kq with
  | zero => exact absurd HA.out (by simp [laws_jPuzzle.j0])
  | succ kj2 =>
   have H := HA.out; clear HA; simp only [laws_jPuzzle.j0] at H
   by_cases c13 : x19_2 = true
   ·subst c13
    rw [if_pos rfl] at H
    obtain rfl := Option.some.inj H
    go_wp2
    repeat (go_quiet (fail); try go_wp2)
    go_ret
    exact ⟨zt, zy HB⟩
   ·replace c13 := Bool.eq_false_iff.mpr c13
    subst c13; rw [if_neg (show ¬ (false = true) by decide)] at H; have H' := Aside0.mk H; clear H; have hnb14 := NB475_476.out; have hnc14 := NB476_475.out
    obtain ⟨_, _, _, _⟩ := zc2 BK475
    go_wp2
    repeat (go_quiet (fail); try go_wp2)
    go_loopg [23] kj2 (fun kq v23 w' => ∃ (x23_2 : Int), v23 = .int .i64 x23_2 ∧ Aside0 (laws_jPuzzle.l0 kq (l0_1.length : Int) x23_2 a0_0 l0_1 a1_0 l1_1 = some r) ∧ Aside0 (kq ≤ kj2) ∧ Aside0 (w'.heap[gb475]? = some (.cells #[.int .i64 a0_0, (.slice A0_1 l0_1.length c0_1)] 28 (0, 0))) ∧ Aside0 (w'.heap[gb476]? = some (.cells #[.int .i64 a1_0, (.slice A1_1 l1_1.length c1_1)] 28 (0, 0))) ∧ Aside0 (Below w.heap.size w w'))
    case atStart => exact ⟨(0), zu, H', ⟨Nat.le_refl _⟩, zk BK475, zk BK476, ⟨zy HB⟩⟩
    case round =>
     clear H'
     obtain ⟨x23_2, rfl, HA, HK2, BK475, BK476, HB⟩ := hrel
     cases gk with
     | zero => exact absurd HA.out (by simp [laws_jPuzzle.l0])
     | succ k2 =>
      have H := HA.out; clear HA; simp only [laws_jPuzzle.l0] at H
      by_cases c16 : x23_2 < (l0_1.length : Int)
      ·rw [if_pos c16] at H
       have c16b0 : decide (x23_2 < (l0_1.length : Int)) = true := decide_eq_true c16; clear c16
       by_cases c17 : 0 ≤ x23_2
       ·rw [if_pos c17] at H
        have c17b0 : decide (0 ≤ x23_2) = true := decide_eq_true c17; clear c17
        by_cases c18 : x23_2 < (l0_1.length : Int)
        ·rw [if_pos c18] at H
         have c18b0 : decide (x23_2 < (l0_1.length : Int)) = true := decide_eq_true c18; clear c18
         by_cases c19 : x23_2 < (l1_1.length : Int)
         ·rw [if_pos c19] at H
          have c19b0 : decide (x23_2 < (l1_1.length : Int)) = true := decide_eq_true c19; clear c19
          by_cases c20 : (!(((rd_T43 l0_1 x23_2).f0) == ((rd_T43 l1_1 x23_2).f0)) || (!(((rd_T43 l0_1 x23_2).f1) == ((rd_T43 l1_1 x23_2).f1)) || (!(((rd_T43 l0_1 x23_2).f2) == ((rd_T43 l1_1 x23_2).f2))))) = true
          ·rw [if_pos c20] at H
           have c20b0 : (!(((rd_T43 l0_1 x23_2).f0) == ((rd_T43 l1_1 x23_2).f0)) || (!(((rd_T43 l0_1 x23_2).f1) == ((rd_T43 l1_1 x23_2).f1)) || (!(((rd_T43 l0_1 x23_2).f2) == ((rd_T43 l1_1 x23_2).f2))))) = true := c20
           clear c20
           obtain rfl := Option.some.inj H
           have hnb21 := NB475_476.out; have hnc21 := NB476_475.out
           obtain ⟨_, _, _, _⟩ := zc2 BK475
           have p477 : 0 ≤ (x23_2 : Int) := of_decide_eq_true zO1_6
           have q477 : x23_2 < (l0_1.length : Int) := of_decide_eq_true zO1_6
           obtain ⟨ad477, e477, hx477_0, hx477_1, hx477_2⟩ := at_T43 HR0_1.out x23_2 p477 q477
           cases e477
           replace hx477_0 := (HB.out.cell (World.block_lt_of_cell? w _ hx477_0)).trans hx477_0
           replace hx477_1 := (HB.out.cell (World.block_lt_of_cell? w _ hx477_1)).trans hx477_1
           replace hx477_2 := (HB.out.cell (World.block_lt_of_cell? w _ hx477_2)).trans hx477_2
           replace p477 := eq_true p477; replace q477 := eq_true q477
           obtain ⟨_, _, _, _⟩ := zc2 BK476
           have p478 : 0 ≤ (x23_2 : Int) := of_decide_eq_true zO1_6
           have q478 : x23_2 < (l1_1.length : Int) := of_decide_eq_true zO1_6
           obtain ⟨ad478, e478, hx478_0, hx478_1, hx478_2⟩ := at_T43 HR1_1.out x23_2 p478 q478
           cases e478
           replace hx478_0 := (HB.out.cell (World.block_lt_of_cell? w _ hx478_0)).trans hx478_0
           replace hx478_1 := (HB.out.cell (World.block_lt_of_cell? w _ hx478_1)).trans hx478_1
           replace hx478_2 := (HB.out.cell (World.block_lt_of_cell? w _ hx478_2)).trans hx478_2
           replace p478 := eq_true p478; replace q478 := eq_true q478
           go_wp2
           repeat (go_quiet (fail); try go_wp2)
           go_ret
           exact ⟨zt, zy HB⟩
          ·rw [if_neg c20] at H
           have c20b0 : (!(((rd_T43 l0_1 x23_2).f0) == ((rd_T43 l1_1 x23_2).f0)) || (!(((rd_T43 l0_1 x23_2).f1) == ((rd_T43 l1_1 x23_2).f1)) || (!(((rd_T43 l0_1 x23_2).f2) == ((rd_T43 l1_1 x23_2).f2))))) = false := by simpa using c20
           clear c20; have H' := Aside0.mk H; clear H; have hnb24 := NB475_476.out; have hnc24 := NB476_475.out
           obtain ⟨_, _, _, _⟩ := zc2 BK475
           have p477 : 0 ≤ (x23_2 : Int) := of_decide_eq_true zO1_6
           have q477 : x23_2 < (l0_1.length : Int) := of_decide_eq_true zO1_6
           obtain ⟨ad477, e477, hx477_0, hx477_1, hx477_2⟩ := at_T43 HR0_1.out x23_2 p477 q477
           cases e477
           replace hx477_0 := (HB.out.cell (World.block_lt_of_cell? w _ hx477_0)).trans hx477_0
           replace hx477_1 := (HB.out.cell (World.block_lt_of_cell? w _ hx477_1)).trans hx477_1
           replace hx477_2 := (HB.out.cell (World.block_lt_of_cell? w _ hx477_2)).trans hx477_2
           replace p477 := eq_true p477; replace q477 := eq_true q477
           obtain ⟨_, _, _, _⟩ := zc2 BK476
           have p478 : 0 ≤ (x23_2 : Int) := of_decide_eq_true zO1_6
           have q478 : x23_2 < (l1_1.length : Int) := of_decide_eq_true zO1_6
           obtain ⟨ad478, e478, hx478_0, hx478_1, hx478_2⟩ := at_T43 HR1_1.out x23_2 p478 q478
           cases e478
           replace hx478_0 := (HB.out.cell (World.block_lt_of_cell? w _ hx478_0)).trans hx478_0
           replace hx478_1 := (HB.out.cell (World.block_lt_of_cell? w _ hx478_1)).trans hx478_1
           replace hx478_2 := (HB.out.cell (World.block_lt_of_cell? w _ hx478_2)).trans hx478_2
           replace p478 := eq_true p478; replace q478 := eq_true q478
           go_wp2
           repeat (go_quiet (fail); try go_wp2)
           go_roundg k2
           case measure => have := HJ2.out; have := HK2.out; omega
           case rel => exact ⟨(wrap64 (x23_2 + 1)), zu, H', ⟨by have := HJ2.out; have := HK2.out; omega⟩, zk BK475, zk BK476, ⟨zy HB⟩⟩
         ·rw [if_neg c19] at H
          exact absurd H zO1_7
        ·rw [if_neg c18] at H
         exact absurd H zO1_7
       ·rw [if_neg c17] at H
        exact absurd H zO1_7
      ·rw [if_neg c16] at H
       have c16b0 : decide (x23_2 < (l0_1.length : Int)) = false := decide_eq_false c16; clear c16
       obtain rfl := Option.some.inj H
       go_wp2
       repeat (go_quiet (fail); try go_wp2)
       go_ret
       exact ⟨zt, zy HB⟩


/-! ### impl_DoesFit: function 23 -/
def impl_DoesFit.f (k : Nat) (a0_0 : Int) (a0_1 : Int) (a0_2 : Int) (a1_0 : Int) (a1_1 : Int) (a1_2 : Int) : Option (Bool × Bool) := (impl_isClue.f k a0_0 a0_1 a0_2).bind fun t481 => (if t481 = true then ((impl_areHidden.f a1_0 a1_1 a1_2).bind fun t482 => (if t482 = true then ((impl_doesFit.f k a0_0 a0_1 a0_2 a1_0 a1_1 a1_2).bind fun t483 => (some (t483, true))) else (some (false, false)))) else (some (false, false)))
set_option maxHeartbeats 8000000 in
set_option maxRecDepth 100000 in
theorem impl_DoesFit.calls (k : Nat) (a0_0 : Int) (a0_1 : Int) (a0_2 : Int) (a1_0 : Int) (a1_1 : Int) (a1_2 : Int) (r1 : Bool) (r2 : Bool) (w : World) (h : impl_DoesFit.f k a0_0 a0_1 a0_2 a1_0 a1_1 a1_2 = some (r1, r2)) :
  Calls Try.prog 23 #[.agg #[.int .i64 a0_0, .int .i64 a0_1, .int .i64 a0_2], .agg #[.int .i64 a1_0, .int .i64 a1_1, .int .i64 a1_2]] w fun e w' => e = .returned (.tuple #[.bool r1, .bool r2]) ∧ Below w.heap.size w w' := by
 have hu43 := Try.underlying43; have hu41 := Try.underlying41
 have HB := Aside0.mk (Below.refl w.heap.size w)
 have H : ((impl_isClue.f k a0_0 a0_1 a0_2).bind fun t481 => (if t481 = true then ((impl_areHidden.f a1_0 a1_1 a1_2).bind fun t482 => (if t482 = true then ((impl_doesFit.f k a0_0 a0_1 a0_2 a1_0 a1_1 a1_2).bind fun t483 => (some (t483, true))) else (some (false, false)))) else (some (false, false)))) = some (r1, r2) := h
 clear h; replace H := Option.bind_eq_some_iff.mp H; obtain ⟨t481, A30, H⟩ := H; (try dsimp only at H); have A3 := Aside0.mk A30; clear A30
 by_cases c4 : t481 = true
 ·subst c4
  rw [if_pos rfl] at H; replace H := Option.bind_eq_some_iff.mp H; obtain ⟨t482, A50, H⟩ := H
  replace H : (if t482 = true then ((impl_doesFit.f k a0_0 a0_1 a0_2 a1_0 a1_1 a1_2).bind fun t483 => (some (t483, true))) else (some (false, false))) = some (r1, r2) := H
  have A5 := Aside0.mk A50; clear A50
  by_cases c6 : t482 = true
  ·subst c6
   rw [if_pos rfl] at H; replace H := Option.bind_eq_some_iff.mp H; obtain ⟨t483, A70, H⟩ := H
   replace H : (some (t483, true)) = some (r1, r2) := H
   have A7 := Aside0.mk A70; clear A70; simp only [Option.some.injEq, Prod.mk.injEq] at H; obtain ⟨rfl, rfl⟩ := H
   go_enter Try.func23, Try.ntmps23
   go_wp2_with (first | ((with_reducible refine gate_dst (N := 2) rfl ?_); refine zE 2 #[.int .i64 a0_0, .int .i64 a0_1, .int .i64 a0_2] 43 ?_; intro gb479 hg w8 hbox hb; have BK479 := Aside0.mk (hbox); have GW479 := zg HB hg; have GE479 := GW479; replace HB := zh HB hb; clear hb hbox hg) | ((with_reducible refine gate_dst (N := 3) rfl ?_); refine zE 3 #[.int .i64 a1_0, .int .i64 a1_1, .int .i64 a1_2] 41 ?_; intro gb480 hg w9 hbox hb; have BK480 := Aside0.mk (hbox); have GW480 := zg HB hg; have GE480 := GW480; have NB479_480 := zl BK479 hg; have NB480_479 := zr BK479 hg; replace BK479 := zb BK479 hb; replace HB := zh HB hb; clear hb hbox hg; have hnb10 := NB479_480.out; have hnc10 := NB480_479.out; obtain ⟨_, _, _, _, _, _⟩ := zc3 BK479) | ((with_reducible refine gate_callee (f := 68) rfl ?_); refine zG (some 7) Try.func68 #[.agg #[.int .i64 a0_0, .int .i64 a0_1, .int .i64 a0_2]] ?_; (with_reducible refine (impl_isClue.calls k a0_0 a0_1 a0_2 true _ A3.out).mono ?_); rintro e w12 ⟨rfl, hb⟩; refine ⟨_, rfl, ?_⟩; replace BK479 := zb BK479 hb; replace BK480 := zb BK480 hb; replace HB := zh HB hb; clear hb; obtain ⟨_, _, _, _, _, _⟩ := zc3 BK480) | (go_at_call 58; (with_reducible refine (impl_areHidden.calls a1_0 a1_1 a1_2 true _ A5.out).mono ?_); rintro e w14 ⟨rfl, hb⟩; replace BK479 := zb BK479 hb; replace BK480 := zb BK480 hb; replace HB := zh HB hb; clear hb; obtain ⟨_, _, _, _, _, _⟩ := zc3 BK479; obtain ⟨_, _, _, _, _, _⟩ := zc3 BK480) | ((with_reducible refine gate_callee (f := 69) rfl ?_); refine zG (some 16) Try.func69 #[.agg #[.int .i64 a0_0, .int .i64 a0_1, .int .i64 a0_2], .agg #[.int .i64 a1_0, .int .i64 a1_1, .int .i64 a1_2]] ?_; (with_reducible refine (impl_doesFit.calls k a0_0 a0_1 a0_2 a1_0 a1_1 a1_2 t483 _ A7.out).mono ?_); rintro e w17 ⟨rfl, hb⟩; refine ⟨_, rfl, ?_⟩; replace BK479 := zb BK479 hb; replace BK480 := zb BK480 hb; replace HB := zh HB hb; clear hb))
   go_ret2
   exact ⟨zt, zy HB⟩
  ·replace c6 := Bool.eq_false_iff.mpr c6
   subst c6; rw [if_neg (show ¬ (false = true) by decide)] at H; simp only [Option.some.injEq, Prod.mk.injEq] at H; obtain ⟨rfl, rfl⟩ := H
   go_enter Try.func23, Try.ntmps23
   go_wp2_with (first | ((with_reducible refine gate_dst (N := 2) rfl ?_); refine zE 2 #[.int .i64 a0_0, .int .i64 a0_1, .int .i64 a0_2] 43 ?_; intro gb479 hg w18 hbox hb; have BK479 := Aside0.mk (hbox); have GW479 := zg HB hg; have GE479 := GW479; replace HB := zh HB hb; clear hb hbox hg) | ((with_reducible refine gate_dst (N := 3) rfl ?_); refine zE 3 #[.int .i64 a1_0, .int .i64 a1_1, .int .i64 a1_2] 41 ?_; intro gb480 hg w19 hbox hb; have BK480 := Aside0.mk (hbox); have GW480 := zg HB hg; have GE480 := GW480; have NB479_480 := zl BK479 hg; have NB480_479 := zr BK479 hg; replace BK479 := zb BK479 hb; replace HB := zh HB hb; clear hb hbox hg; have hnb20 := NB479_480.out; have hnc20 := NB480_479.out; obtain ⟨_, _, _, _, _, _⟩ := zc3 BK479) | ((with_reducible refine gate_callee (f := 68) rfl ?_); refine zG (some 7) Try.func68 #[.agg #[.int .i64 a0_0, .int .i64 a0_1, .int .i64 a0_2]] ?_; (with_reducible refine (impl_isClue.calls k a0_0 a0_1 a0_2 true _ A3.out).mono ?_); rintro e w22 ⟨rfl, hb⟩; refine ⟨_, rfl, ?_⟩; replace BK479 := zb BK479 hb; replace BK480 := zb BK480 hb; replace HB := zh HB hb; clear hb; obtain ⟨_, _, _, _, _, _⟩ := zc3 BK480) | (go_at_call 58; (with_reducible refine (impl_areHidden.calls a1_0 a1_1 a1_2 false _ A5.out).mono ?_); rintro e w24 ⟨rfl, hb⟩; replace BK479 := zb BK479 hb; replace BK480 := zb BK480 hb; replace HB := zh HB hb; clear hb))
   go_ret2
   exact ⟨zt, zy HB⟩
 ·replace c4 := Bool.eq_false_iff.mpr c4
  subst c4; rw [if_neg (show ¬ (false = true) by decide)] at H; simp only [Option.some.injEq, Prod.mk.injEq] at H; obtain ⟨rfl, rfl⟩ := H
  go_enter Try.func23, Try.ntmps23
  go_wp2_with (first | ((with_reducible refine gate_dst (N := 2) rfl ?_); refine zE 2 #[.int .i64 a0_0, .int .i64 a0_1, .int .i64 a0_2] 43 ?_; intro gb479 hg w25 hbox hb; have BK479 := Aside0.mk (hbox); have GW479 := zg HB hg; have GE479 := GW479; replace HB := zh HB hb; clear hb hbox hg) | ((with_reducible refine gate_dst (N := 3) rfl ?_); refine zE 3 #[.int .i64 a1_0, .int .i64 a1_1, .int .i64 a1_2] 41 ?_; intro gb480 hg w26 hbox hb; have BK480 := Aside0.mk (hbox); have GW480 := zg HB hg; have GE480 := GW480; have NB479_480 := zl BK479 hg; have NB480_479 := zr BK479 hg; replace BK479 := zb BK479 hb; replace HB := zh HB hb; clear hb hbox hg; have hnb27 := NB479_480.out; have hnc27 := NB480_479.out; obtain ⟨_, _, _, _, _, _⟩ := zc3 BK479) | ((with_reducible refine gate_callee (f := 68) rfl ?_); refine zG (some 7) Try.func68 #[.agg #[.int .i64 a0_0, .int .i64 a0_1, .int .i64 a0_2]] ?_; (with_reducible refine (impl_isClue.calls k a0_0 a0_1 a0_2 false _ A3.out).mono ?_); rintro e w29 ⟨rfl, hb⟩; refine ⟨_, rfl, ?_⟩; replace BK479 := zb BK479 hb; replace BK480 := zb BK480 hb; replace HB := zh HB hb; clear hb))
  go_ret2
  exact ⟨zt, zy HB⟩


/-! ### impl_SquaresOf: function 70 -/
def impl_SquaresOf.f (a0_0 : Int) (a0_1 : Int) (a0_2 : Int) : Option (Int × Int × Bool) := (impl_AreLadders.f a0_0 a0_1 a0_2).bind fun t485 => (if t485 = true then (some (wrap64 ((wrap64 (a0_0 * a0_0)) + (wrap64 (a0_1 * a0_1))), wrap64 ((wrap64 (a0_0 * a0_0)) + (wrap64 (a0_2 * a0_2))), true)) else (some (0, 0, false)))
set_option maxHeartbeats 8000000 in
set_option maxRecDepth 100000 in
theorem impl_SquaresOf.calls (a0_0 : Int) (a0_1 : Int) (a0_2 : Int) (r1 : Int) (r2 : Int) (r3 : Bool) (w : World) (h : impl_SquaresOf.f a0_0 a0_1 a0_2 = some (r1, r2, r3)) :
  Calls Try.prog 70 #[.agg #[.int .i64 a0_0, .int .i64 a0_1, .int .i64 a0_2]] w fun e w' => e = .returned (.tuple #[.int .i64 r1, .int .i64 r2, .bool r3]) ∧ Below w.heap.size w w' := by
 have hu41 := Try.underlying41
 have HB := Aside0.mk (Below.refl w.heap.size w)
 have H : ((impl_AreLadders.f a0_0 a0_1 a0_2).bind fun t485 => (if t485 = true then (some (wrap64 ((wrap64 (a0_0 * a0_0)) + (wrap64 (a0_1 * a0_1))), wrap64 ((wrap64 (a0_0 * a0_0)) + (wrap64 (a0_2 * a0_2))), true)) else (some (0, 0, false)))) = some (r1, r2, r3) := h
 clear h; replace H := Option.bind_eq_some_iff.mp H; obtain ⟨t485, A20, H⟩ := H; (try dsimp only at H); have A2 := Aside0.mk A20; clear A20
 by_cases c3 : t485 = true
 ·subst c3
  rw [if_pos rfl] at H; simp only [Option.some.injEq, Prod.mk.injEq] at H; obtain ⟨rfl, rfl, rfl⟩ := H
  go_enter Try.func70, Try.ntmps70
  go_wp2_with (first | ((with_reducible refine gate_dst (N := 1) rfl ?_); refine zE 1 #[.int .i64 a0_0, .int .i64 a0_1, .int .i64 a0_2] 41 ?_; intro gb484 hg w4 hbox hb; have BK484 := Aside0.mk (hbox); have GW484 := zg HB hg; have GE484 := GW484; replace HB := zh HB hb; clear hb hbox hg; obtain ⟨_, _, _, _, _, _⟩ := zc3 BK484) | (go_at_call 66; (with_reducible refine (impl_AreLadders.calls a0_0 a0_1 a0_2 true _ A2.out).mono ?_); rintro e w6 ⟨rfl, hb⟩; replace BK484 := zb BK484 hb; replace HB := zh HB hb; clear hb; obtain ⟨_, _, _, _, _, _⟩ := zc3 BK484))
  repeat (go_quiet (first | ((with_reducible refine gate_dst (N := 1) rfl ?_); refine zE 1 #[.int .i64 a0_0, .int .i64 a0_1, .int .i64 a0_2] 41 ?_; intro gb484 hg w4 hbox hb; have BK484 := Aside0.mk (hbox); have GW484 := zg HB hg; have GE484 := GW484; replace HB := zh HB hb; clear hb hbox hg; obtain ⟨_, _, _, _, _, _⟩ := zc3 BK484) | (go_at_call 66; (with_reducible refine (impl_AreLadders.calls a0_0 a0_1 a0_2 true _ A2.out).mono ?_); rintro e w6 ⟨rfl, hb⟩; replace BK484 := zb BK484 hb; replace HB := zh HB hb; clear hb; obtain ⟨_, _, _, _, _, _⟩ := zc3 BK484)); try go_wp2_with (first | ((with_reducible refine gate_dst (N := 1) rfl ?_); refine zE 1 #[.int .i64 a0_0, .int .i64 a0_1, .int .i64 a0_2] 41 ?_; intro gb484 hg w4 hbox hb; have BK484 := Aside0.mk (hbox); have GW484 := zg HB hg; have GE484 := GW484; replace HB := zh HB hb; clear hb hbox hg; obtain ⟨_, _, _, _, _, _⟩ := zc3 BK484) | (go_at_call 66; (with_reducible refine (impl_AreLadders.calls a0_0 a0_1 a0_2 true _ A2.out).mono ?_); rintro e w6 ⟨rfl, hb⟩; replace BK484 := zb BK484 hb; replace HB := zh HB hb; clear hb; obtain ⟨_, _, _, _, _, _⟩ := zc3 BK484)))
  go_ret3
  exact ⟨zt, zy HB⟩
 ·replace c3 := Bool.eq_false_iff.mpr c3
  subst c3; rw [if_neg (show ¬ (false = true) by decide)] at H; simp only [Option.some.injEq, Prod.mk.injEq] at H; obtain ⟨rfl, rfl, rfl⟩ := H
  go_enter Try.func70, Try.ntmps70
  go_wp2_with (first | ((with_reducible refine gate_dst (N := 1) rfl ?_); refine zE 1 #[.int .i64 a0_0, .int .i64 a0_1, .int .i64 a0_2] 41 ?_; intro gb484 hg w8 hbox hb; have BK484 := Aside0.mk (hbox); have GW484 := zg HB hg; have GE484 := GW484; replace HB := zh HB hb; clear hb hbox hg; obtain ⟨_, _, _, _, _, _⟩ := zc3 BK484) | (go_at_call 66; (with_reducible refine (impl_AreLadders.calls a0_0 a0_1 a0_2 false _ A2.out).mono ?_); rintro e w10 ⟨rfl, hb⟩; replace BK484 := zb BK484 hb; replace HB := zh HB hb; clear hb))
  repeat (go_quiet (first | ((with_reducible refine gate_dst (N := 1) rfl ?_); refine zE 1 #[.int .i64 a0_0, .int .i64 a0_1, .int .i64 a0_2] 41 ?_; intro gb484 hg w8 hbox hb; have BK484 := Aside0.mk (hbox); have GW484 := zg HB hg; have GE484 := GW484; replace HB := zh HB hb; clear hb hbox hg; obtain ⟨_, _, _, _, _, _⟩ := zc3 BK484) | (go_at_call 66; (with_reducible refine (impl_AreLadders.calls a0_0 a0_1 a0_2 false _ A2.out).mono ?_); rintro e w10 ⟨rfl, hb⟩; replace BK484 := zb BK484 hb; replace HB := zh HB hb; clear hb)); try go_wp2_with (first | ((with_reducible refine gate_dst (N := 1) rfl ?_); refine zE 1 #[.int .i64 a0_0, .int .i64 a0_1, .int .i64 a0_2] 41 ?_; intro gb484 hg w8 hbox hb; have BK484 := Aside0.mk (hbox); have GW484 := zg HB hg; have GE484 := GW484; replace HB := zh HB hb; clear hb hbox hg; obtain ⟨_, _, _, _, _, _⟩ := zc3 BK484) | (go_at_call 66; (with_reducible refine (impl_AreLadders.calls a0_0 a0_1 a0_2 false _ A2.out).mono ?_); rintro e w10 ⟨rfl, hb⟩; replace BK484 := zb BK484 hb; replace HB := zh HB hb; clear hb)))
  go_ret3
  exact ⟨zt, zy HB⟩


/-! ### impl_LengthsOf: function 25 -/
def impl_LengthsOf.f (k : Nat) (a0_0 : Int) (a0_1 : Int) (a0_2 : Int) : Option (Int × Int × Bool) := (impl_SquaresOf.f a0_0 a0_1 a0_2).bind fun bt487 => ((impl_rootOf.f k bt487.1).bind fun bt490 => ((impl_rootOf.f k bt487.2.1).bind fun bt492 => (if bt487.2.2 = true then (if bt490.2 = true then (if bt492.2 = true then (some (bt490.1, bt492.1, true)) else (some (0, 0, false))) else (some (0, 0, false))) else (some (0, 0, false)))))
set_option maxHeartbeats 8000000 in
set_option maxRecDepth 100000 in
theorem impl_LengthsOf.calls (k : Nat) (a0_0 : Int) (a0_1 : Int) (a0_2 : Int) (r1 : Int) (r2 : Int) (r3 : Bool) (w : World) (h : impl_LengthsOf.f k a0_0 a0_1 a0_2 = some (r1, r2, r3)) :
  Calls Try.prog 25 #[.agg #[.int .i64 a0_0, .int .i64 a0_1, .int .i64 a0_2]] w fun e w' => e = .returned (.tuple #[.int .i64 r1, .int .i64 r2, .bool r3]) ∧ Below w.heap.size w w' := by
 have hu41 := Try.underlying41
 have HB := Aside0.mk (Below.refl w.heap.size w)
 have H : ((impl_SquaresOf.f a0_0 a0_1 a0_2).bind fun bt487 => ((impl_rootOf.f k bt487.1).bind fun bt490 => ((impl_rootOf.f k bt487.2.1).bind fun bt492 => (if bt487.2.2 = true then (if bt490.2 = true then (if bt492.2 = true then (some (bt490.1, bt492.1, true)) else (some (0, 0, false))) else (some (0, 0, false))) else (some (0, 0, false)))))) = some (r1, r2, r3) := h
 clear h; replace H := Option.bind_eq_some_iff.mp H; obtain ⟨⟨t487, t488, t489⟩, A20, H⟩ := H; (try dsimp only at H); have A2 := Aside0.mk A20; clear A20; replace H := Option.bind_eq_some_iff.mp H; obtain ⟨⟨t490, t491⟩, A30, H⟩ := H; (try dsimp only at H); have A3 := Aside0.mk A30; clear A30; replace H := Option.bind_eq_some_iff.mp H; obtain ⟨⟨t492, t493⟩, A40, H⟩ := H; (try dsimp only at H); have A4 := Aside0.mk A40; clear A40
 by_cases c5 : t489 = true
 ·subst c5
  rw [if_pos rfl] at H
  by_cases c6 : t491 = true
  ·subst c6
   rw [if_pos rfl] at H
   by_cases c7 : t493 = true
   ·subst c7
    rw [if_pos rfl] at H; simp only [Option.some.injEq, Prod.mk.injEq] at H; obtain ⟨rfl, rfl, rfl⟩ := H
    go_enter Try.func25, Try.ntmps25
    go_wp2_with (first | ((with_reducible refine gate_dst (N := 1) rfl ?_); refine zE 1 #[.int .i64 a0_0, .int .i64 a0_1, .int .i64 a0_2] 41 ?_; intro gb486 hg w8 hbox hb; have BK486 := Aside0.mk (hbox); have GW486 := zg HB hg; have GE486 := GW486; replace HB := zh HB hb; clear hb hbox hg; obtain ⟨_, _, _, _, _, _⟩ := zc3 BK486) | ((with_reducible refine gate_callee (f := 70) rfl ?_); refine zG (some 14) Try.func70 #[.agg #[.int .i64 a0_0, .int .i64 a0_1, .int .i64 a0_2]] ?_; (with_reducible refine (impl_SquaresOf.calls a0_0 a0_1 a0_2 t487 t488 true _ A2.out).mono ?_); rintro e w10 ⟨rfl, hb⟩; refine ⟨_, rfl, ?_⟩; replace BK486 := zb BK486 hb; replace HB := zh HB hb; clear hb) | ((with_reducible refine gate_callee (f := 71) rfl ?_); refine zG (some 20) Try.func71 #[.int .i64 t487] ?_; (with_reducible refine (impl_rootOf.calls k t487 t490 true _ A3.out).mono ?_); rintro e w' ⟨rfl, ⟨nd, rfl⟩⟩; refine ⟨_, rfl, ?_⟩) | ((with_reducible refine gate_callee (f := 71) rfl ?_); refine zG (some 25) Try.func71 #[.int .i64 t488] ?_; (with_reducible refine (impl_rootOf.calls k t488 t492 true _ A4.out).mono ?_); rintro e w' ⟨rfl, ⟨nd, rfl⟩⟩; refine ⟨_, rfl, ?_⟩))
    go_ret3
    exact ⟨zt, zy HB⟩
   ·replace c7 := Bool.eq_false_iff.mpr c7
    subst c7; rw [if_neg (show ¬ (false = true) by decide)] at H; simp only [Option.some.injEq, Prod.mk.injEq] at H; obtain ⟨rfl, rfl, rfl⟩ := H
    go_enter Try.func25, Try.ntmps25
    go_wp2_with (first | ((with_reducible refine gate_dst (N := 1) rfl ?_); refine zE 1 #[.int .i64 a0_0, .int .i64 a0_1, .int .i64 a0_2] 41 ?_; intro gb486 hg w11 hbox hb; have BK486 := Aside0.mk (hbox); have GW486 := zg HB hg; have GE486 := GW486; replace HB := zh HB hb; clear hb hbox hg; obtain ⟨_, _, _, _, _, _⟩ := zc3 BK486) | ((with_reducible refine gate_callee (f := 70) rfl ?_); refine zG (some 14) Try.func70 #[.agg #[.int .i64 a0_0, .int .i64 a0_1, .int .i64 a0_2]] ?_; (with_reducible refine (impl_SquaresOf.calls a0_0 a0_1 a0_2 t487 t488 true _ A2.out).mono ?_); rintro e w13 ⟨rfl, hb⟩; refine ⟨_, rfl, ?_⟩; replace BK486 := zb BK486 hb; replace HB := zh HB hb; clear hb) | ((with_reducible refine gate_callee (f := 71) rfl ?_); refine zG (some 20) Try.func71 #[.int .i64 t487] ?_; (with_reducible refine (impl_rootOf.calls k t487 t490 true _ A3.out).mono ?_); rintro e w' ⟨rfl, ⟨nd, rfl⟩⟩; refine ⟨_, rfl, ?_⟩) | ((with_reducible refine gate_callee (f := 71) rfl ?_); refine zG (some 25) Try.func71 #[.int .i64 t488] ?_; (with_reducible refine (impl_rootOf.calls k t488 t492 false _ A4.out).mono ?_); rintro e w' ⟨rfl, ⟨nd, rfl⟩⟩; refine ⟨_, rfl, ?_⟩))
    go_ret3
    exact ⟨zt, zy HB⟩
  ·replace c6 := Bool.eq_false_iff.mpr c6
   subst c6; rw [if_neg (show ¬ (false = true) by decide)] at H; simp only [Option.some.injEq, Prod.mk.injEq] at H; obtain ⟨rfl, rfl, rfl⟩ := H
   go_enter Try.func25, Try.ntmps25
   go_wp2_with (first | ((with_reducible refine gate_dst (N := 1) rfl ?_); refine zE 1 #[.int .i64 a0_0, .int .i64 a0_1, .int .i64 a0_2] 41 ?_; intro gb486 hg w14 hbox hb; have BK486 := Aside0.mk (hbox); have GW486 := zg HB hg; have GE486 := GW486; replace HB := zh HB hb; clear hb hbox hg; obtain ⟨_, _, _, _, _, _⟩ := zc3 BK486) | ((with_reducible refine gate_callee (f := 70) rfl ?_); refine zG (some 14) Try.func70 #[.agg #[.int .i64 a0_0, .int .i64 a0_1, .int .i64 a0_2]] ?_; (with_reducible refine (impl_SquaresOf.calls a0_0 a0_1 a0_2 t487 t488 true _ A2.out).mono ?_); rintro e w16 ⟨rfl, hb⟩; refine ⟨_, rfl, ?_⟩; replace BK486 := zb BK486 hb; replace HB := zh HB hb; clear hb) | ((with_reducible refine gate_callee (f := 71) rfl ?_); refine zG (some 20) Try.func71 #[.int .i64 t487] ?_; (with_reducible refine (impl_rootOf.calls k t487 t490 false _ A3.out).mono ?_); rintro e w' ⟨rfl, ⟨nd, rfl⟩⟩; refine ⟨_, rfl, ?_⟩) | ((with_reducible refine gate_callee (f := 71) rfl ?_); refine zG (some 25) Try.func71 #[.int .i64 t488] ?_; (with_reducible refine (impl_rootOf.calls k t488 t492 t493 _ A4.out).mono ?_); rintro e w' ⟨rfl, ⟨nd, rfl⟩⟩; refine ⟨_, rfl, ?_⟩))
   go_ret3
   exact ⟨zt, zy HB⟩
 ·replace c5 := Bool.eq_false_iff.mpr c5
  subst c5; rw [if_neg (show ¬ (false = true) by decide)] at H; simp only [Option.some.injEq, Prod.mk.injEq] at H; obtain ⟨rfl, rfl, rfl⟩ := H
  go_enter Try.func25, Try.ntmps25
  go_wp2_with (first | ((with_reducible refine gate_dst (N := 1) rfl ?_); refine zE 1 #[.int .i64 a0_0, .int .i64 a0_1, .int .i64 a0_2] 41 ?_; intro gb486 hg w17 hbox hb; have BK486 := Aside0.mk (hbox); have GW486 := zg HB hg; have GE486 := GW486; replace HB := zh HB hb; clear hb hbox hg; obtain ⟨_, _, _, _, _, _⟩ := zc3 BK486) | ((with_reducible refine gate_callee (f := 70) rfl ?_); refine zG (some 14) Try.func70 #[.agg #[.int .i64 a0_0, .int .i64 a0_1, .int .i64 a0_2]] ?_; (with_reducible refine (impl_SquaresOf.calls a0_0 a0_1 a0_2 t487 t488 false _ A2.out).mono ?_); rintro e w19 ⟨rfl, hb⟩; refine ⟨_, rfl, ?_⟩; replace BK486 := zb BK486 hb; replace HB := zh HB hb; clear hb) | ((with_reducible refine gate_callee (f := 71) rfl ?_); refine zG (some 20) Try.func71 #[.int .i64 t487] ?_; (with_reducible refine (impl_rootOf.calls k t487 t490 t491 _ A3.out).mono ?_); rintro e w' ⟨rfl, ⟨nd, rfl⟩⟩; refine ⟨_, rfl, ?_⟩) | ((with_reducible refine gate_callee (f := 71) rfl ?_); refine zG (some 25) Try.func71 #[.int .i64 t488] ?_; (with_reducible refine (impl_rootOf.calls k t488 t492 t493 _ A4.out).mono ?_); rintro e w' ⟨rfl, ⟨nd, rfl⟩⟩; refine ⟨_, rfl, ?_⟩))
  go_ret3
  exact ⟨zt, zy HB⟩


/-! ### impl_IsSolved: function 27 -/
def impl_IsSolved.f (k : Nat) (a0_0 : Int) (l0_1 : List (S43)) : Option (Bool × Bool) := (impl_IsPuzzle.f k a0_0 l0_1).bind fun t495 => (if t495 = true then ((impl_isSolved.f k a0_0 l0_1).bind fun t496 => (some (t496, true))) else (some (false, false)))
set_option maxHeartbeats 8000000 in
set_option maxRecDepth 100000 in
theorem impl_IsSolved.calls (k : Nat) (a0_0 : Int) (A0_1 : Option Addr) (c0_1 : Nat) (l0_1 : List (S43)) (r1 : Bool) (r2 : Bool) (w : World) (hr0_1 : Kd.C k43 w A0_1 l0_1.length l0_1) (hc0_1 : l0_1.length ≤ c0_1) (h : impl_IsSolved.f k a0_0 l0_1 = some (r1, r2)) :
  Calls Try.prog 27 #[.agg #[.int .i64 a0_0, .slice A0_1 l0_1.length c0_1]] w fun e w' => e = .returned (.tuple #[.bool r1, .bool r2]) ∧ Below w.heap.size w w' := by
 have hu28 := Try.underlying28; have HR0_1 := Aside0.mk hr0_1; have HC0_1 := Aside0.mk hc0_1; clear hr0_1 hc0_1
 have HB := Aside0.mk (Below.refl w.heap.size w)
 have H : ((impl_IsPuzzle.f k a0_0 l0_1).bind fun t495 => (if t495 = true then ((impl_isSolved.f k a0_0 l0_1).bind fun t496 => (some (t496, true))) else (some (false, false)))) = some (r1, r2) := h
 clear h; replace H := Option.bind_eq_some_iff.mp H; obtain ⟨t495, A20, H⟩ := H
 replace H : (if t495 = true then ((impl_isSolved.f k a0_0 l0_1).bind fun t496 => (some (t496, true))) else (some (false, false))) = some (r1, r2) := H
 have A2 := Aside0.mk A20; clear A20
 by_cases c3 : t495 = true
 ·subst c3
  rw [if_pos rfl] at H; replace H := Option.bind_eq_some_iff.mp H; obtain ⟨t496, A40, H⟩ := H
  replace H : (some (t496, true)) = some (r1, r2) := H
  have A4 := Aside0.mk A40; clear A40; simp only [Option.some.injEq, Prod.mk.injEq] at H; obtain ⟨rfl, rfl⟩ := H
  go_enter Try.func27, Try.ntmps27
  go_wp2_with (first | ((with_reducible refine gate_dst (N := 1) rfl ?_); refine zE 1 #[.int .i64 a0_0, .slice A0_1 l0_1.length c0_1] 28 ?_; intro gb494 hg w5 hbox hb; have BK494 := Aside0.mk (hbox); have GW494 := zg HB hg; have GE494 := GW494; replace HB := zh HB hb; clear hb hbox hg; obtain ⟨_, _, _, _⟩ := zc2 BK494) | ((with_reducible refine gate_callee (f := 26) rfl ?_); refine zG (some 5) Try.func26 #[.agg #[.int .i64 a0_0, .slice A0_1 l0_1.length c0_1]] ?_; (with_reducible refine (impl_IsPuzzle.calls k a0_0 _ _ l0_1 true _ ?side1 ?side2 A2.out).mono ?_); (case side1 => repeat (first | exact (Kd.C_below HR0_1.out HB.out) | (with_reducible refine Kd.C_alloc ?_ _) | (with_reducible refine Kd.C_drewN ?_ _) | (with_reducible refine Kd.C_drew ?_))); (case side2 => exact HC0_1.out); rintro e w7 ⟨rfl, hb⟩; refine ⟨_, rfl, ?_⟩; replace BK494 := zb BK494 hb; replace HB := zh HB hb; clear hb; obtain ⟨_, _, _, _⟩ := zc2 BK494) | ((with_reducible refine gate_callee (f := 49) rfl ?_); refine zG (some 11) Try.func49 #[.int .i64 a0_0, .slice A0_1 l0_1.length c0_1] ?_; (with_reducible refine (impl_isSolved.calls k a0_0 _ _ l0_1 t496 _ ?side1 ?side2 A4.out).mono ?_); (case side1 => repeat (first | exact (Kd.C_below HR0_1.out HB.out) | (with_reducible refine Kd.C_alloc ?_ _) | (with_reducible refine Kd.C_drewN ?_ _) | (with_reducible refine Kd.C_drew ?_))); (case side2 => exact HC0_1.out); rintro e w9 ⟨rfl, hb⟩; refine ⟨_, rfl, ?_⟩; replace BK494 := zb BK494 hb; replace HB := zh HB hb; clear hb))
  go_ret2
  exact ⟨zt, zy HB⟩
 ·replace c3 := Bool.eq_false_iff.mpr c3
  subst c3; rw [if_neg (show ¬ (false = true) by decide)] at H; simp only [Option.some.injEq, Prod.mk.injEq] at H; obtain ⟨rfl, rfl⟩ := H
  go_enter Try.func27, Try.ntmps27
  go_wp2_with (first | ((with_reducible refine gate_dst (N := 1) rfl ?_); refine zE 1 #[.int .i64 a0_0, .slice A0_1 l0_1.length c0_1] 28 ?_; intro gb494 hg w10 hbox hb; have BK494 := Aside0.mk (hbox); have GW494 := zg HB hg; have GE494 := GW494; replace HB := zh HB hb; clear hb hbox hg; obtain ⟨_, _, _, _⟩ := zc2 BK494) | ((with_reducible refine gate_callee (f := 26) rfl ?_); refine zG (some 5) Try.func26 #[.agg #[.int .i64 a0_0, .slice A0_1 l0_1.length c0_1]] ?_; (with_reducible refine (impl_IsPuzzle.calls k a0_0 _ _ l0_1 false _ ?side1 ?side2 A2.out).mono ?_); (case side1 => repeat (first | exact (Kd.C_below HR0_1.out HB.out) | (with_reducible refine Kd.C_alloc ?_ _) | (with_reducible refine Kd.C_drewN ?_ _) | (with_reducible refine Kd.C_drew ?_))); (case side2 => exact HC0_1.out); rintro e w12 ⟨rfl, hb⟩; refine ⟨_, rfl, ?_⟩; replace BK494 := zb BK494 hb; replace HB := zh HB hb; clear hb))
  go_ret2
  exact ⟨zt, zy HB⟩


theorem eqA41 (d : Nat) (w : World) (x0 y0 : Int) (x1 y1 : Int) (x2 y2 : Int) :
  (Op.equalIn (d + 2) 41 (.agg #[.int .i64 x0, .int .i64 x1, .int .i64 x2]) (.agg #[.int .i64 y0, .int .i64 y1, .int .i64 y2])).run Try.prog w = .ok (x0 == y0 && (x1 == y1 && (x2 == y2))) w := by
 refine eqA_of Try.underlying41 (by kernel_rfl) ?_
 refine eqf_cons (by rfl) (by go_simp; rfl) (by go_simp; rfl) (by go_simp) ?_
 refine eqf_cons (by rfl) (by go_simp; rfl) (by go_simp; rfl) (by go_simp) ?_
 exact eqf_last (by rfl) (by go_simp; rfl) (by go_simp; rfl) (by go_simp)

attribute [local go_sem high] eqA41
/-! ### laws_jLadders: function 29 -/
def laws_jLadders.l0 : Nat → List (S41) → List (S41) → Int → Int → Option (Bool)
 | 0, _, _, _, _ => none
 | k + 1, x0, x1, x12, x13 => if x13 < x12 then (if 0 ≤ x13 then (if x13 < (x0.length : Int) then (if x13 < (x1.length : Int) then (if (!(((rd_T41 x0 x13).f0) == ((rd_T41 x1 x13).f0)) || (!(((rd_T41 x0 x13).f1) == ((rd_T41 x1 x13).f1)) || (!(((rd_T41 x0 x13).f2) == ((rd_T41 x1 x13).f2))))) = true then (some false) else (laws_jLadders.l0 k x0 x1 x12 (wrap64 (x13 + 1)))) else (none)) else (none)) else (none)) else (some true)
def laws_jLadders.f (k : Nat) (l0 : List (S41)) (l1 : List (S41)) : Option (Bool) := if (l0.length : Int) = (l1.length : Int) then (laws_jLadders.l0 k l0 l1 (l0.length : Int) 0) else (some false)
set_option maxHeartbeats 8000000 in
set_option maxRecDepth 100000 in
theorem laws_jLadders.calls (k : Nat) (A0 : Option Addr) (c0 : Nat) (l0 : List (S41)) (A1 : Option Addr) (c1 : Nat) (l1 : List (S41)) (r : Bool) (w : World) (hr0 : Kd.C k41 w A0 l0.length l0) (hc0 : l0.length ≤ c0) (hr1 : Kd.C k41 w A1 l1.length l1) (hc1 : l1.length ≤ c1) (h : laws_jLadders.f k l0 l1 = some r) :
  Calls Try.prog 29 #[.slice A0 l0.length c0, .slice A1 l1.length c1] w fun e w' => e = .returned (.bool r) ∧ Drawn0 w w' := by
 have hu41 := Try.underlying41; have HR0 := Aside0.mk hr0; have HC0 := Aside0.mk hc0; clear hr0 hc0; have HR1 := Aside0.mk hr1; have HC1 := Aside0.mk hc1; clear hr1 hc1
 have H : (if (l0.length : Int) = (l1.length : Int) then (laws_jLadders.l0 k l0 l1 (l0.length : Int) 0) else (some false)) = some r := h
 clear h
 by_cases c3 : (l0.length : Int) = (l1.length : Int)
 ·rw [if_pos c3] at H
  have c3b0 : ((l0.length : Int) == (l1.length : Int)) = true := beq_iff_eq.mpr c3
  have c3b1 : ((l0.length : Int) != (l1.length : Int)) = false := bne_eq_false_iff_eq.mpr c3
  have c3b2 : (l0.length == l1.length) = true := by first | simpa using c3 | (simp at c3 ⊢; omega)
  clear c3; have H' := Aside0.mk H; clear H
  go_enter Try.func29, Try.ntmps29
  go_wp2
  repeat (go_quiet (fail); try go_wp2)
  go_loopg [13] k (fun kq v13 w' => ∃ (x13_1 : Int), v13 = .int .i64 x13_1 ∧ Aside0 (laws_jLadders.l0 kq l0 l1 (l0.length : Int) x13_1 = some r) ∧ Aside0 (kq ≤ k) ∧ Drawn0 w w')
  case atStart => exact ⟨(0), zu, H', ⟨Nat.le_refl _⟩, by repeat (first | exact Drawn0.refl _ | apply Drawn0.step)⟩
  case round =>
   clear H'
   obtain ⟨x13_1, rfl, HA, HK1, ⟨m1, rfl⟩⟩ := hrel
   cases gk with
   | zero => exact absurd HA.out (by simp [laws_jLadders.l0])
   | succ k1 =>
    have H := HA.out; clear HA; simp only [laws_jLadders.l0] at H
    by_cases c4 : x13_1 < (l0.length : Int)
    ·rw [if_pos c4] at H
     have c4b0 : decide (x13_1 < (l0.length : Int)) = true := decide_eq_true c4; clear c4
     by_cases c5 : 0 ≤ x13_1
     ·rw [if_pos c5] at H
      have c5b0 : decide (0 ≤ x13_1) = true := decide_eq_true c5; clear c5
      by_cases c6 : x13_1 < (l0.length : Int)
      ·rw [if_pos c6] at H
       have c6b0 : decide (x13_1 < (l0.length : Int)) = true := decide_eq_true c6; clear c6
       by_cases c7 : x13_1 < (l1.length : Int)
       ·rw [if_pos c7] at H
        have c7b0 : decide (x13_1 < (l1.length : Int)) = true := decide_eq_true c7; clear c7
        by_cases c8 : (!(((rd_T41 l0 x13_1).f0) == ((rd_T41 l1 x13_1).f0)) || (!(((rd_T41 l0 x13_1).f1) == ((rd_T41 l1 x13_1).f1)) || (!(((rd_T41 l0 x13_1).f2) == ((rd_T41 l1 x13_1).f2))))) = true
        ·rw [if_pos c8] at H
         have c8b0 : (!(((rd_T41 l0 x13_1).f0) == ((rd_T41 l1 x13_1).f0)) || (!(((rd_T41 l0 x13_1).f1) == ((rd_T41 l1 x13_1).f1)) || (!(((rd_T41 l0 x13_1).f2) == ((rd_T41 l1 x13_1).f2))))) = true := c8
         clear c8
         obtain rfl := Option.some.inj H
         have p497 : 0 ≤ (x13_1 : Int) := of_decide_eq_true zO1_6
         have q497 : x13_1 < (l0.length : Int) := of_decide_eq_true zO1_6
         obtain ⟨ad497, e497, hx497_0, hx497_1, hx497_2⟩ := at_T41 HR0.out x13_1 p497 q497
         cases e497; replace p497 := eq_true p497; replace q497 := eq_true q497
         have p498 : 0 ≤ (x13_1 : Int) := of_decide_eq_true zO1_6
         have q498 : x13_1 < (l1.length : Int) := of_decide_eq_true zO1_6
         obtain ⟨ad498, e498, hx498_0, hx498_1, hx498_2⟩ := at_T41 HR1.out x13_1 p498 q498
         cases e498; replace p498 := eq_true p498; replace q498 := eq_true q498
         go_wp2
         repeat (go_quiet (fail); try go_wp2)
         go_ret
         exact ⟨by first | rfl | (simp; done) | (simp [*]; done), by repeat (first | exact Drawn0.refl _ | apply Drawn0.step)⟩
        ·rw [if_neg c8] at H
         have c8b0 : (!(((rd_T41 l0 x13_1).f0) == ((rd_T41 l1 x13_1).f0)) || (!(((rd_T41 l0 x13_1).f1) == ((rd_T41 l1 x13_1).f1)) || (!(((rd_T41 l0 x13_1).f2) == ((rd_T41 l1 x13_1).f2))))) = false := by simpa using c8
         clear c8; have H' := Aside0.mk H; clear H
         have p497 : 0 ≤ (x13_1 : Int) := of_decide_eq_true zO1_6
         have q497 : x13_1 < (l0.length : Int) := of_decide_eq_true zO1_6
         obtain ⟨ad497, e497, hx497_0, hx497_1, hx497_2⟩ := at_T41 HR0.out x13_1 p497 q497
         cases e497; replace p497 := eq_true p497; replace q497 := eq_true q497
         have p498 : 0 ≤ (x13_1 : Int) := of_decide_eq_true zO1_6
         have q498 : x13_1 < (l1.length : Int) := of_decide_eq_true zO1_6
         obtain ⟨ad498, e498, hx498_0, hx498_1, hx498_2⟩ := at_T41 HR1.out x13_1 p498 q498
         cases e498; replace p498 := eq_true p498; replace q498 := eq_true q498
         go_wp2
         repeat (go_quiet (fail); try go_wp2)
         go_roundg k1
         case measure => have := HK1.out; omega
         case rel => exact ⟨(wrap64 (x13_1 + 1)), zu, H', ⟨by have := HK1.out; omega⟩, by repeat (first | exact Drawn0.refl _ | apply Drawn0.step)⟩
       ·rw [if_neg c7] at H
        exact absurd H zO1_7
      ·rw [if_neg c6] at H
       exact absurd H zO1_7
     ·rw [if_neg c5] at H
      exact absurd H zO1_7
    ·rw [if_neg c4] at H
     have c4b0 : decide (x13_1 < (l0.length : Int)) = false := decide_eq_false c4; clear c4
     obtain rfl := Option.some.inj H
     go_wp2
     repeat (go_quiet (fail); try go_wp2)
     go_ret
     exact ⟨by first | rfl | (simp; done) | (simp [*]; done), by repeat (first | exact Drawn0.refl _ | apply Drawn0.step)⟩
 ·rw [if_neg c3] at H
  have c3b0 : ((l0.length : Int) == (l1.length : Int)) = false := beq_eq_false_iff_ne.mpr c3
  have c3b1 : ((l0.length : Int) != (l1.length : Int)) = true := bne_iff_ne.mpr c3
  have c3b2 : (l0.length == l1.length) = false := by first | simpa using c3 | (simp at c3 ⊢; omega)
  obtain rfl := Option.some.inj H
  go_enter Try.func29, Try.ntmps29
  go_wp2
  repeat (go_quiet (fail); try go_wp2)
  go_ret
  exact ⟨by first | rfl | (simp; done) | (simp [*]; done), by repeat (first | exact Drawn0.refl _ | apply Drawn0.step)⟩

end Go.Proofs.Ythioojdannlhiaa.P
