/- The law FnLaddersHidden is proved: a call of it returns true and leaves its arguments as they were; and what this needs. Every input that the given rows speak of; nothing else is asked. -/
import Derived.Test.YtopoopkobfdjjaaOFnLaddersHidden0
import Derived.Test.YtopoopkobfdjjaaOFnLaddersHidden1
namespace Go.Proofs.Ytopoopkobfdjjaa.P
open Go.RowKit Go.Proofs.YtopoopkobfdjjaaW.PrintWords Go.Proofs.YtopoopkobfdjjaaW.PrintLast Go.Proofs.YtopoopkobfdjjaaW.PrintMore
set_option linter.unusedVariables false
theorem zO2_0 {p : Prop} (h : p := by (with_reducible repeat (first | apply Kd.R_alloc | apply Kd.R_drewN | apply Kd.R_drew)); exact (Kd.R_mono (Kd.R_far (p := ⟨gb467, 2, none⟩) (Kd.R_far (p := ⟨gb467, 1, none⟩) (Kd.R_far (p := ⟨gb467, 0, none⟩) (Kd.R_mono HO_5.out (fun k_ hk => (⟨hk, hk.2⟩ : _ ∧ k_ ≠ gb467))) (fun _ hk => hk.2) (.int .i64 a0)) (fun _ hk => hk.2) (.int .i64 x6_1)) (fun _ hk => hk.2) (.int .i64 x7_2)) (fun _ h_ => h_.1))) : p := h
theorem zO2_1 {p : Prop} (h : p := by (try simp only [List.map_toArray, List.map_cons, List.map_nil]); first | done | rfl | (simp only [List.length_drop, List.length_take]; rfl)) : p := h
theorem zO2_2 {p : Prop} (h : p := by repeat (first | (with_reducible first | exact HB.out | apply below_alloc | apply pw_below_drewN | apply below_drew1) | exact HB.out)) : p := h
theorem zO2_3 {p : Prop} (h : p := by (with_reducible repeat (first | apply Kd.V_alloc | apply Kd.V_drewN | apply Kd.V_drew)); exact HO487.out) : p := h
theorem zO2_4 {p : Prop} (h : p := by (with_reducible repeat (first | apply Kd.V_alloc | apply Kd.V_drewN | apply Kd.V_drew)); exact HO492.out) : p := h
theorem zO2_5 {p : Prop} (h : p := by (with_reducible repeat (first | apply Kd.V_alloc | apply Kd.V_drewN | apply Kd.V_drew)); exact HO0.out) : p := h
theorem zO2_6 {p : Prop} (h : p := by simp only [putAll, Act.put, List.setIfInBounds_toArray, List.set_cons_zero, List.set_cons_succ]) : p := h
theorem zO2_7 {p : Prop} (h : p := by first | (with_reducible assumption) | assumption) : p := h
theorem zO2_8 {p : Prop} (h : p := by omega) : p := h
theorem zO2_9 {p : Prop} (h : p := by simp) : p := h
end Go.Proofs.Ytopoopkobfdjjaa.P
namespace Go.Proofs.Ytopoopkobfdjjaa.P
open Go.RowKit Go.Proofs.YtopoopkobfdjjaaW.PrintWords Go.Proofs.YtopoopkobfdjjaaW.PrintLast Go.Proofs.YtopoopkobfdjjaaW.PrintMore
attribute [local go_sem] max2_int min2_int max_two min_two max_three min_three max_four min_four   -- for this text's walks alone
set_option linter.unusedVariables false
set_option linter.unusedSimpArgs false

/-! ### impl_solutions: function 61 -/
mutual
def impl_solutions.l0 : Nat → Int → List (S39) → List (S25) → Int → Option ((List (S25)))
 | 0, _, _, _, _ => none
 | k + 1, x0, x1, x5, x6 => if x6 ≤ 12 then (impl_solutions.l1 k x0 x1 x5 x6 1) else (some x5)
def impl_solutions.l1 : Nat → Int → List (S39) → List (S25) → Int → Int → Option ((List (S25)))
 | 0, _, _, _, _, _ => none
 | k + 1, x0, x1, x5, x6, x7 => if x7 ≤ 12 then ((anySolution.f k x1 x0 x6 x7).bind fun t468 => (if t468 = true then (impl_solutions.l1 k x0 x1 x5 x6 (wrap64 (x7 + 1))) else (if x5.length < 5864062014805 then (impl_solutions.l1 k x0 x1 (x5 ++ [(⟨x0, x6, x7⟩ : S25)]) x6 (wrap64 (x7 + 1))) else (none)))) else (impl_solutions.l0 k x0 x1 x5 (wrap64 (x6 + 1)))
end
def impl_solutions.f (k : Nat) (a0 : Int) (l1 : List (S39)) : Option ((List (S25))) := impl_solutions.l0 k a0 l1 (([] : List (S25))) 1
set_option maxHeartbeats 8000000 in
set_option maxRecDepth 100000 in
theorem impl_solutions.calls (k : Nat) (a0 : Int) (A1 : Option Addr) (c1 : Nat) (l1 : List (S39)) (r : List (S25)) (w : World) (hr1 : Kd.C k39 w A1 l1.length l1) (hc1 : l1.length ≤ c1) (h : impl_solutions.f k a0 l1 = some r) :
  Calls Try.prog 61 #[.int .i64 a0, .slice A1 l1.length c1] w fun e w' => ∃ v0_ : Value, e = .returned (v0_) ∧ Kd.R k25 25 w' w.heap.size (fun _ => True) v0_ r ∧ Below w.heap.size w w' := by
 have hu25 := Try.underlying25; have HR1 := Aside0.mk hr1; have HC1 := Aside0.mk hc1; clear hr1 hc1
 have HB := Aside0.mk (Below.refl w.heap.size w)
 have H : (impl_solutions.l0 k a0 l1 (([] : List (S25))) 1) = some r := h
 clear h
 obtain ⟨y464, hy464⟩ : ∃ y_ : List (S25), y_ = (([] : List (S25))) := ⟨_, rfl⟩
 replace H : (impl_solutions.l0 k a0 l1 y464 1) = some r := by first | (rw [hy464]; with_reducible exact H) | (have H2_ := (Option.bind_some _ _).symm.trans H; rw [hy464]; with_reducible exact H2_) | (have H2_ := (Option.bind_some _ _).symm.trans H; with_reducible exact H2_) | with_reducible exact H | (rw [hy464]; exact H) | exact H
 have Ny464 := Aside0.mk hy464; clear hy464; have H' := Aside0.mk H; clear H
 go_enter Try.func61, Try.ntmps61
 go_wp2_with (first | ((with_reducible refine gate_dst (N := 9) rfl ?_); refine Kd.R_lit k25 _ 25 ?hg (N := 9) ?hd (xs := ([] : List (S25))) (inner := []) (ok := fun _ => True) (okp := fun _ => True) ?hr ?hp (fun _ hk => hk) trivial (Below.refl _ _) (Nat.le_refl _) zO2_9 ?_; (case hd => rfl); (case hg => rfl); (case hr => first | (go_simp; done) | (go_simp; rfl)); (case hp => exact (Reps.none _ _)); intro v465 w3 ho4 hb hg_ hnew_; clear hg_ hnew_; (first | rw [← Ny464.out] at ho4 | (simp only [Int.reduceToNat] at ho4; rw [← Ny464.out] at ho4)); have HO466 := Aside0.mk (Kd.R_lower ho4 (below_size (zy HB))); replace HB := zh HB hb; clear hb ho4))
 go_loopg [5, 6] k (fun kq v5 v6 w' => ∃ (x5_1 : List (S25)) (x6_1 : Int), v6 = .int .i64 x6_1 ∧ Aside0 (impl_solutions.l0 kq a0 l1 x5_1 x6_1 = some r) ∧ Aside0 (kq ≤ k) ∧ Aside0 (Kd.R k25 25 w' w.heap.size (fun _ => True) v5 x5_1) ∧ Aside0 (Below w.heap.size w w'))
 case atStart => exact ⟨(y464), (1), zu, H', ⟨Nat.le_refl _⟩, zp HO466, ⟨zy HB⟩⟩
 case round =>
  clear H'
  obtain ⟨x5_1, x6_1, rfl, HA, HK1, HO_5, HB⟩ := hrel
  cases gk with
  | zero => exact absurd HA.out (by simp [impl_solutions.l0])
  | succ k1 =>
   have H := HA.out; clear HA; simp only [impl_solutions.l0] at H
   by_cases c5 : x6_1 ≤ 12
   ·rw [if_pos c5] at H
    have c5b0 : decide (x6_1 ≤ 12) = true := decide_eq_true c5; clear c5; have H' := Aside0.mk H; clear H
    go_wp2
    go_loopg [5, 7] k1 (fun kq v5 v7 w' => ∃ (x5_2 : List (S25)) (x7_2 : Int), v7 = .int .i64 x7_2 ∧ Aside0 (impl_solutions.l1 kq a0 l1 x5_2 x6_1 x7_2 = some r) ∧ Aside0 (kq ≤ k1) ∧ Aside0 (Kd.R k25 25 w' w.heap.size (fun _ => True) v5 x5_2) ∧ Aside0 (Below w.heap.size w w'))
    case atStart => exact ⟨(x5_1), (1), zu, H', ⟨Nat.le_refl _⟩, zp HO_5, ⟨zy HB⟩⟩
    case round =>
     clear H'
     obtain ⟨x5_2, x7_2, rfl, HA, HK2, HO_5, HB⟩ := hrel
     cases gk with
     | zero => exact absurd HA.out (by simp [impl_solutions.l1])
     | succ k2 =>
      have H := HA.out; clear HA; simp only [impl_solutions.l1] at H
      by_cases c6 : x7_2 ≤ 12
      ·rw [if_pos c6] at H
       have c6b0 : decide (x7_2 ≤ 12) = true := decide_eq_true c6; clear c6; replace H := Option.bind_eq_some_iff.mp H; obtain ⟨t468, A70, H⟩ := H; (try dsimp only at H); have A7 := Aside0.mk A70; clear A70
       by_cases c8 : t468 = true
       ·subst c8
        rw [if_pos rfl] at H; have H' := Aside0.mk H; clear H
        go_wp2_with (first | ((with_reducible refine gate_dst (N := 8) rfl ?_); refine zE 8 #[.int .i64 0, .int .i64 0, .int .i64 0] 25 ?_; intro gb467 hg w9 hbox hb; have n0_ := Aside0.mk (Kd.R_below (Kd.R_elderB (zs HO_5) gb467 (Nat.le_of_eq hg.symm)) hb); have BK467 := Aside0.mk (hbox); have GW467 := zg HB hg; have GE467 := GW467; replace HB := zh HB hb; clear HO_5; have HO_5 := n0_; clear n0_; clear hb hbox hg; obtain ⟨_, _, _, _, _, _⟩ := zc3 BK467) | ((with_reducible refine gate_callee (f := 52) rfl ?_); refine zG (some 24) Try.func52 #[.slice A1 l1.length c1, .func (.func 78) #[] #[.pointer (some ⟨gb467, 0, none⟩)]] ?_; (with_reducible refine (anySolution.calls k2 _ _ l1 a0 x6_1 x7_2 true _ ?side1 ?side2 A7.out gb467 ?sideB).mono ?_); (case sideB => exact (zw BK467)); (case side1 => exact Kd.C_below HR1.out (zy HB)); (case side2 => exact HC1.out); rintro e w11 ⟨rfl, hb⟩; refine ⟨_, rfl, ?_⟩; have n0_ := Aside0.mk (Kd.R_below zO2_0 hb); have n1_ := Aside0.mk (blk_below (g := gb467) (o := .cells #[.int .i64 a0, .int .i64 x6_1, .int .i64 x7_2] 25 (0, 0)) (zw BK467) hb); replace HB := zh HB hb; clear HO_5; have HO_5 := n0_; clear n0_; clear BK467; have BK467 := n1_; clear n1_; clear hb))
        go_roundg k2
        case measure => have := HK1.out; have := HK2.out; omega
        case rel => exact ⟨(x5_2), (wrap64 (x7_2 + 1)), zu, H', ⟨by have := HK1.out; have := HK2.out; omega⟩, ⟨by (with_reducible repeat (first | apply Kd.R_alloc | apply Kd.R_drewN | apply Kd.R_drew)); exact Kd.R_mono HO_5.out (fun _ hk => trivial)⟩, ⟨zy HB⟩⟩
       ·replace c8 := Bool.eq_false_iff.mpr c8
        subst c8; rw [if_neg (show ¬ (false = true) by decide)] at H
        by_cases c12 : x5_2.length < 5864062014805
        ·rw [if_pos c12] at H
         have LMc12 := Aside0.mk c12; clear c12
         obtain ⟨y469, hy469⟩ : ∃ y_ : List (S25), y_ = (x5_2 ++ [(⟨a0, x6_1, x7_2⟩ : S25)]) := ⟨_, rfl⟩
         replace H : (impl_solutions.l1 k2 a0 l1 y469 x6_1 (wrap64 (x7_2 + 1))) = some r := by first | (rw [hy469]; with_reducible exact H) | (have H2_ := (Option.bind_some _ _).symm.trans H; rw [hy469]; with_reducible exact H2_) | (have H2_ := (Option.bind_some _ _).symm.trans H; with_reducible exact H2_) | with_reducible exact H | (rw [hy469]; exact H) | exact H
         have Ny469 := Aside0.mk hy469; clear hy469; have H' := Aside0.mk H; clear H
         go_wp2_with (first | ((with_reducible refine gate_dst (N := 8) rfl ?_); refine zE 8 #[.int .i64 0, .int .i64 0, .int .i64 0] 25 ?_; intro gb467 hg w13 hbox hb; have n0_ := Aside0.mk (Kd.R_below (Kd.R_elderB (zs HO_5) gb467 (Nat.le_of_eq hg.symm)) hb); have BK467 := Aside0.mk (hbox); have GW467 := zg HB hg; have GE467 := GW467; replace HB := zh HB hb; clear HO_5; have HO_5 := n0_; clear n0_; clear hb hbox hg; obtain ⟨_, _, _, _, _, _⟩ := zc3 BK467) | ((with_reducible refine gate_callee (f := 52) rfl ?_); refine zG (some 24) Try.func52 #[.slice A1 l1.length c1, .func (.func 78) #[] #[.pointer (some ⟨gb467, 0, none⟩)]] ?_; (with_reducible refine (anySolution.calls k2 _ _ l1 a0 x6_1 x7_2 false _ ?side1 ?side2 A7.out gb467 ?sideB).mono ?_); (case sideB => exact (zw BK467)); (case side1 => exact Kd.C_below HR1.out (zy HB)); (case side2 => exact HC1.out); rintro e w15 ⟨rfl, hb⟩; refine ⟨_, rfl, ?_⟩; have n0_ := Aside0.mk (Kd.R_below zO2_0 hb); have n1_ := Aside0.mk (blk_below (g := gb467) (o := .cells #[.int .i64 a0, .int .i64 x6_1, .int .i64 x7_2] 25 (0, 0)) (zw BK467) hb); replace HB := zh HB hb; clear HO_5; have HO_5 := n0_; clear n0_; clear BK467; have BK467 := n1_; clear n1_; clear hb; obtain ⟨_, _, _, _, _, _⟩ := zc3 BK467) | ((with_reducible refine gate_builtin (b := .append) (xs := #[.tmp 26, .tmp 28]) rfl ?_); at_builtin; refine Kd.R_append k25 (w0 := w) w.heap.size rfl (.tmp 26) (.tmp 28) 44 25 (.agg #[(.int .i64 0), (.int .i64 0), (.int .i64 0)]) 24 rfl Try.underlying44 info25 rfl (by decide) zO2_8 u5 x5_2 (⟨a0, x6_1, x7_2⟩ : S25) [.int .i64 a0, .int .i64 x6_1, .int .i64 x7_2] (fun k_ => k_ ≠ gb467) (fun _ => False) rfl rfl ?aP (fun _ hk => hk.elim) ?aF ?aO ?aB ?aS ?aL ?_; (case aP => exact k25_mkM _ _ _ (⟨a0, x6_1, x7_2⟩ : S25)); (case aB => exact (zy HB)); (case aF => exact (fun k_ hk => Kd.freshB (zq BK467) k_ hk)); (case aO => exact (by (with_reducible repeat (first | apply Kd.R_alloc | apply Kd.R_drewN | apply Kd.R_drew)); exact Kd.R_mono HO_5.out (fun _ hk => hk.2))); (case aS => exact (below_size (zy HB))); (case aL => have := LMc12.out; omega); intro v470 w17 ho hb hg hat; rw [← Ny469.out] at ho; have n0_ := Aside0.mk (blk_grown (zq BK467) hg (Kd.R_away HO_5.out (fun _ hk => hk.2))); have HO471 := Aside0.mk (ho); replace HB := Aside0.mk hb; clear HO_5; clear BK467; have BK467 := n0_; clear n0_; clear ho hb hg hat))
         go_roundg k2
         case measure => have := HK1.out; have := HK2.out; omega
         case rel => exact ⟨(y469), (wrap64 (x7_2 + 1)), zu, H', ⟨by have := HK1.out; have := HK2.out; omega⟩, ⟨by (with_reducible repeat (first | apply Kd.R_alloc | apply Kd.R_drewN | apply Kd.R_drew)); exact Kd.R_mono HO471.out (fun _ hk => trivial)⟩, ⟨zy HB⟩⟩
        ·rw [if_neg c12] at H
         exact absurd H zO2_9
      ·rw [if_neg c6] at H
       have c6b0 : decide (x7_2 ≤ 12) = false := decide_eq_false c6; clear c6; have H' := Aside0.mk H; clear H
       go_wp2
       go_roundg k2
       case measure => have := HK1.out; have := HK2.out; omega
       case rel => exact ⟨(x5_2), (wrap64 (x6_1 + 1)), zu, H', ⟨by have := HK1.out; have := HK2.out; omega⟩, zp HO_5, ⟨zy HB⟩⟩
   ·rw [if_neg c5] at H
    have c5b0 : decide (x6_1 ≤ 12) = false := decide_eq_false c5; clear c5
    obtain rfl := Option.some.inj H
    go_wp2
    go_ret
    exact ⟨_, zt, by (with_reducible repeat (first | apply Kd.R_alloc | apply Kd.R_drewN | apply Kd.R_drew)); exact HO_5.out, zy HB⟩


/-! ### impl_isSolved: function 55 -/
def impl_isSolved.f (k : Nat) (a0 : Int) (l1 : List (S39)) : Option (Bool) := (impl_solutions.f k a0 l1).bind fun t472 => (some ((t472.length : Int) == 1))
set_option maxHeartbeats 8000000 in
set_option maxRecDepth 100000 in
theorem impl_isSolved.calls (k : Nat) (a0 : Int) (A1 : Option Addr) (c1 : Nat) (l1 : List (S39)) (r : Bool) (w : World) (hr1 : Kd.C k39 w A1 l1.length l1) (hc1 : l1.length ≤ c1) (h : impl_isSolved.f k a0 l1 = some r) :
  Calls Try.prog 55 #[.int .i64 a0, .slice A1 l1.length c1] w fun e w' => e = .returned (.bool r) ∧ Below w.heap.size w w' := by
 have HR1 := Aside0.mk hr1; have HC1 := Aside0.mk hc1; clear hr1 hc1
 have HB := Aside0.mk (Below.refl w.heap.size w)
 have H : ((impl_solutions.f k a0 l1).bind fun t472 => (some ((t472.length : Int) == 1))) = some r := h
 clear h; replace H := Option.bind_eq_some_iff.mp H; obtain ⟨t472, A30, H⟩ := H
 replace H : (some ((t472.length : Int) == 1)) = some r := H
 have A3 := Aside0.mk A30; clear A30
 obtain rfl := Option.some.inj H
 go_enter Try.func55, Try.ntmps55
 go_wp2_with (first | ((with_reducible refine gate_callee (f := 61) rfl ?_); refine zG (some 7) Try.func61 #[.int .i64 a0, .slice A1 l1.length c1] ?_; (with_reducible refine (impl_solutions.calls k a0 _ _ l1 t472 _ ?side1 ?side2 A3.out).mono ?_); (case side1 => repeat (first | exact HR1.out | (with_reducible refine Kd.C_alloc ?_ _) | (with_reducible refine Kd.C_drewN ?_ _) | (with_reducible refine Kd.C_drew ?_))); (case side2 => exact HC1.out); rintro e w4 ⟨v473, rfl, ho0, hb⟩; refine ⟨_, rfl, ?_⟩; have HO474 := Aside0.mk (Kd.R_lower ho0 (below_size (zy HB))); replace HB := zh HB hb; clear hb ho0; obtain ⟨Ao5, co5, eo5⟩ := Kd.R_slice HO474.out; subst eo5))
 go_ret
 exact ⟨zt, zy HB⟩


/-! ### impl_Clue_56: function 56 -/
def impl_Clue_56.f (l0 : List S39) : Option (List S39) := if l0.length < 5864062014805 then some l0 else none
set_option maxHeartbeats 8000000 in
set_option maxRecDepth 100000 in
theorem impl_Clue_56.calls (A0 : Option Addr) (c0 : Nat) (l0 : List S39) (r : List S39) (w : World) (hr0 : Kd.C k39 w A0 l0.length l0) (hc0 : l0.length ≤ c0) (h : impl_Clue_56.f l0 = some r) :
  Calls Try.prog 56 #[.slice A0 l0.length c0] w fun e w' => ∃ v0_ : Value, e = .returned (v0_) ∧ Kd.R k39 39 w' w.heap.size (fun _ => True) v0_ r ∧ Below w.heap.size w w' := by
 unfold impl_Clue_56.f at h
 by_cases hl : l0.length < 5864062014805
 ·rw [if_pos hl] at h
  obtain rfl := Option.some.inj h
  have q27 : ∀ (w : World) (a : Option Addr) (n c n' c' : Nat), (binOp .eql 28 (.slice a n c) (.slice none n' c')).run Try.prog w = .ok (.bool a.isNone) w := fun w a n c n' c' => Lib.run_eql_slice_nil w _ _ a n c n' c' Try.underlying28
  cases A0 with
  | none =>
   have h0 : l0 = [] := by
    rcases Nat.eq_zero_or_pos l0.length with h0 | h0
    ·exact List.eq_nil_of_length_eq_zero h0
    ·obtain ⟨ad, h, _⟩ := hr0.2.2 h0; cases h
   subst h0; clear hr0 hc0 hl h
   have HB := Aside0.mk (Below.refl w.heap.size w)
   go_enter Try.func56, Try.ntmps56
   go_wp2
   go_ret
   exact ⟨_, rfl, Kd.R_nil _ _ _ _ _, HB.out⟩
  | some ad =>
   have HR0 := Aside0.mk hr0; have HC0 := Aside0.mk hc0; have HL := Aside0.mk hl; clear hr0 hc0 hl h
   have HB := Aside0.mk (Below.refl w.heap.size w)
   go_enter Try.func56, Try.ntmps56
   go_wp2_with (first | ((with_reducible refine gate_dst (N := 5) rfl ?_); refine Kd.R_lit k39 _ 39 ?hg (N := 5) ?hd (xs := ([] : List (S39))) (inner := []) (ok := fun _ => True) (okp := fun _ => True) ?hr ?hp (fun _ hk => hk) trivial (Below.refl _ _) (Nat.le_refl _) zO2_9 ?_; (case hd => rfl); (case hg => rfl); (case hr => first | (go_simp; done) | (go_simp; rfl)); (case hp => exact (Reps.none _ _)); intro v1 w3 ho4 hb hg_ hnew_; clear hg_ hnew_; have n0_ := Aside0.mk (Kd.R_lower ho4 (below_size zO2_2)); have n1_ := Aside0.mk (below_step zO2_2 hb); clear HB; have HO1 := n0_; have HB := n1_; clear n0_ n1_; clear hb ho4) | ((with_reducible refine gate_builtin (b := .append) (xs := #[.tmp 5, .tmp 6]) rfl ?_); at_builtin; refine Kd.R_append_rows k39 (w0 := w) w.heap.size rfl (.tmp 5) (.tmp 6) 28 39 (.agg #[(.int .i64 0), (.int .i64 0), (.int .i64 0)]) 24 rfl Try.underlying28 info39 rfl (by decide) zO2_8 v1 [] l0 _ _ _ (fun _ => True) (fun _ => False) rfl rfl ?aO ?aR (fun _ _ h => h) (fun _ h => h.elim) ?aF ?aB ?aS ?aL ?_; (case aR => repeat (first | exact (Kd.C_below HR0.out HB.out) | (with_reducible refine Kd.C_alloc ?_ _) | (with_reducible refine Kd.C_drewN ?_ _) | (with_reducible refine Kd.C_drew ?_))); (case aB => exact zO2_2); (case aF => exact (fun _ _ => trivial)); (case aO => exact (by (with_reducible repeat (first | apply Kd.R_alloc | apply Kd.R_drewN | apply Kd.R_drew)); exact HO1.out)); (case aS => exact (below_size zO2_2)); (case aL => have := HL.out; simp only [List.length_nil]; omega); intro v2 w4 ho hb hg hat; rw [List.nil_append] at ho; have n0_ := Aside0.mk ho; have n1_ := Aside0.mk hb; clear HB HO1; have HO2 := n0_; have HB := n1_; clear n0_ n1_; clear ho hb hg hat))
   go_ret
   exact ⟨_, rfl, by (with_reducible repeat (first | apply Kd.R_alloc | apply Kd.R_drewN | apply Kd.R_drew)); exact HO2.out, by repeat (first | (with_reducible first | exact HB.out | apply below_alloc | apply pw_below_drewN | apply below_drew1) | exact HB.out)⟩
 ·rw [if_neg hl] at h
  exact absurd h zO2_9



/-! ### growNil: function 0 -/
def growNil.f (n : Int) : Option (List S39) := if 0 ≤ n ∧ n < 1000 then some [] else none
set_option maxHeartbeats 8000000 in
set_option maxRecDepth 100000 in
theorem growNil.calls (n : Int) (r : List S39) (w : World) (h : growNil.f n = some r) :
  Calls Try.prog 82 #[.slice none 0 0, .int .i64 n] w fun e w' => ∃ v0_ : Value, e = .returned (v0_) ∧ Kd.R k39 39 w' w.heap.size (fun _ => True) v0_ r ∧ Below w.heap.size w w' := by
 unfold growNil.f at h
 by_cases hn : 0 ≤ n ∧ n < 1000
 ·rw [if_pos hn] at h
  obtain rfl := Option.some.inj h
  have hn0 : ¬ n < 0 := by omega
  clear h
  have HB := Aside0.mk (Below.refl w.heap.size w)
  by_cases hp : n > 0
  ·go_enter Try.func82, Try.ntmps82
   go_wp2_with (first | ((with_reducible refine gate_builtin (b := .append) (xs := #[.tmp 20, .tmp 21]) rfl ?_); at_builtin; refine Kd.R_append_zeros k39 (w0 := w) w.heap.size rfl (.tmp 20) (.tmp 21) 28 3 39 (.agg #[(.int .i64 0), (.int .i64 0), (.int .i64 0)]) 24 rfl Try.underlying28 Try.underlying3 info39 rfl (by decide) zO2_8 (.slice none 0 0) [] ⟨0, 0, 0⟩ (n : Int) (fun _ => True) rfl rfl (k39_mkM _ _ _ z39) (fun _ _ => trivial) (Kd.R_nil _ _ _ _ _) zO2_8 ?aB ?aS ?aL ?_; (case aB => exact HB.out); (case aS => exact (below_size HB.out)); (case aL => simp only [List.length_nil]; omega); intro v1 w1 ho hb hg hat; obtain ⟨A1, c1, e1⟩ := Kd.R_slice ho; subst e1; obtain ⟨i0, hi0, _, _, _⟩ := info_parts info39; have hcut := cut_to (P := Try.prog) 28 39 .i64 Try.underlying28 hi0 A1 _ c1 0 zO2_8 zO2_8 (Kd.R_reads' ho).2.1; have HR := Aside0.mk (Kd.R_take (m := 0) ho zO2_8); have HB2 := Aside0.mk hb; clear hb hg hat ho HB hi0; simp only [List.take_zero, Int.toNat_zero] at HR hcut))
   go_ret
   exact ⟨_, rfl, HR.out, HB2.out⟩
  ·go_enter Try.func82, Try.ntmps82
   go_wp2
   go_ret
   exact ⟨_, rfl, Kd.R_nil _ _ _ _ _, HB.out⟩
 ·rw [if_neg hn] at h
  exact absurd h zO2_9



/-! ### impl_Clue_76: function 76 -/
mutual
def impl_Clue_76.l0 : Nat → List (List (S39)) → Int → List (List (S39)) → Int → Int → Option ((List (S39)))
 | 0, _, _, _, _, _ => none
 | k + 1, x0, x3, x9, x10, x11 => if x11 < x10 then (if 0 ≤ x11 then (if x11 < (x9.length : Int) then (if (wrap64 (x3 + ((rd_L4 x9 x11).length : Int))) < 0 then (none) else (impl_Clue_76.l0 k x0 (wrap64 (x3 + ((rd_L4 x9 x11).length : Int))) x9 x10 (wrap64 (x11 + 1)))) else (none)) else (none)) else ((growNil.f x3).bind fun t476 => (impl_Clue_76.l1 k t476 x0 (x0.length : Int) 0))
def impl_Clue_76.l1 : Nat → List (S39) → List (List (S39)) → Int → Int → Option ((List (S39)))
 | 0, _, _, _, _ => none
 | k + 1, x6, x25, x26, x27 => if x27 < x26 then (if 0 ≤ x27 then (if x27 < (x25.length : Int) then (if x6.length + (rd_L4 x25 x27).length < 5864062014805 then (impl_Clue_76.l1 k (x6 ++ (rd_L4 x25 x27)) x25 x26 (wrap64 (x27 + 1))) else (none)) else (none)) else (none)) else (some x6)
end
def impl_Clue_76.f (k : Nat) (l0 : List (List (S39))) : Option ((List (S39))) := impl_Clue_76.l0 k l0 0 l0 (l0.length : Int) 0
set_option maxHeartbeats 8000000 in
set_option maxRecDepth 100000 in
theorem impl_Clue_76.calls (k : Nat) (A0 : Option Addr) (c0 : Nat) (l0 : List (List (S39))) (r : List (S39)) (w : World) (hr0 : Kd.C (Kd.slice 39 k39) w A0 l0.length l0) (hc0 : l0.length ≤ c0) (h : impl_Clue_76.f k l0 = some r) :
  Calls Try.prog 76 #[.slice A0 l0.length c0] w fun e w' => ∃ v0_ : Value, e = .returned (v0_) ∧ Kd.R k39 39 w' w.heap.size (fun _ => True) v0_ r ∧ Below w.heap.size w w' := by
 have HR0 := Aside0.mk hr0; have HC0 := Aside0.mk hc0; clear hr0 hc0
 have HB := Aside0.mk (Below.refl w.heap.size w)
 have H : (impl_Clue_76.l0 k l0 0 l0 (l0.length : Int) 0) = some r := h
 clear h; have H' := Aside0.mk H; clear H
 go_enter Try.func76, Try.ntmps76
 go_wp2
 go_loopg [3, 11] k (fun kq v3 v11 w' => ∃ (x3_1 : Int) (x11_1 : Int), v3 = .int .i64 x3_1 ∧ v11 = .int .i64 x11_1 ∧ Aside0 (impl_Clue_76.l0 kq l0 x3_1 l0 (l0.length : Int) x11_1 = some r) ∧ Aside0 (kq ≤ k) ∧ Aside0 (Below w.heap.size w w'))
 case atStart => exact ⟨(0), (0), zu, zu, H', ⟨Nat.le_refl _⟩, ⟨zy HB⟩⟩
 case round =>
  clear H'
  obtain ⟨x3_1, x11_1, rfl, rfl, HA, HK1, HB⟩ := hrel
  cases gk with
  | zero => exact absurd HA.out (by simp [impl_Clue_76.l0])
  | succ k1 =>
   have H := HA.out; clear HA; simp only [impl_Clue_76.l0] at H
   by_cases c2 : x11_1 < (l0.length : Int)
   ·rw [if_pos c2] at H
    have c2b0 : decide (x11_1 < (l0.length : Int)) = true := decide_eq_true c2; clear c2
    by_cases c3 : 0 ≤ x11_1
    ·rw [if_pos c3] at H
     have c3b0 : decide (0 ≤ x11_1) = true := decide_eq_true c3; clear c3
     by_cases c4 : x11_1 < (l0.length : Int)
     ·rw [if_pos c4] at H
      have c4b0 : decide (x11_1 < (l0.length : Int)) = true := decide_eq_true c4; clear c4
      by_cases c5 : (wrap64 (x3_1 + ((rd_L4 l0 x11_1).length : Int))) < 0
      ·rw [if_pos c5] at H
       exact absurd H zO2_9
      ·rw [if_neg c5] at H
       have c5b0 : decide ((wrap64 (x3_1 + ((rd_L4 l0 x11_1).length : Int))) < 0) = false := decide_eq_false c5; clear c5; have H' := Aside0.mk H; clear H
       have p475 : 0 ≤ (x11_1 : Int) := of_decide_eq_true zO2_7
       have q475 : x11_1 < (l0.length : Int) := of_decide_eq_true zO2_7
       obtain ⟨ad475, A475_0, c475_0, e475, hx475_0, hl475_0, hi475_0⟩ := at_L4 HR0.out x11_1 p475 q475
       cases e475
       replace hx475_0 := (HB.out.cell (World.block_lt_of_cell? w _ hx475_0)).trans hx475_0
       have HR475_0 := Aside0.mk hi475_0; have HC475_0 := Aside0.mk hl475_0; clear hi475_0 hl475_0; replace p475 := eq_true p475; replace q475 := eq_true q475
       go_wp2
       go_roundg k1
       case measure => have := HK1.out; omega
       case rel => exact ⟨(wrap64 (x3_1 + ((rd_L4 l0 x11_1).length : Int))), (wrap64 (x11_1 + 1)), zu, zu, H', ⟨by have := HK1.out; omega⟩, ⟨zy HB⟩⟩
     ·rw [if_neg c4] at H
      exact absurd H zO2_9
    ·rw [if_neg c3] at H
     exact absurd H zO2_9
   ·rw [if_neg c2] at H
    have c2b0 : decide (x11_1 < (l0.length : Int)) = false := decide_eq_false c2; clear c2; replace H := Option.bind_eq_some_iff.mp H; obtain ⟨t476, A60, H⟩ := H
    replace H : (impl_Clue_76.l1 k1 t476 l0 (l0.length : Int) 0) = some r := H
    have A6 := Aside0.mk A60; clear A60; have H' := Aside0.mk H; clear H
    go_wp2_with (first | ((with_reducible refine gate_callee (f := 82) rfl ?_); refine zG (some 24) Try.func82 #[.slice none 0 0, .int .i64 x3_1] ?_; (with_reducible refine (growNil.calls x3_1 t476 _ A6.out).mono ?_); rintro e w7 ⟨v477, rfl, ho0, hb⟩; refine ⟨_, rfl, ?_⟩; have HO478 := Aside0.mk (Kd.R_lower ho0 (below_size (zy HB))); replace HB := zh HB hb; clear hb ho0))
    go_loopg [6, 27] k1 (fun kq v6 v27 w' => ∃ (x6_2 : List (S39)) (x27_2 : Int), v27 = .int .i64 x27_2 ∧ Aside0 (impl_Clue_76.l1 kq x6_2 l0 (l0.length : Int) x27_2 = some r) ∧ Aside0 (kq ≤ k1) ∧ Aside0 (Kd.R k39 39 w' w.heap.size (fun _ => True) v6 x6_2) ∧ Aside0 (Below w.heap.size w w'))
    case atStart => exact ⟨(t476), (0), zu, H', ⟨Nat.le_refl _⟩, zp HO478, ⟨zy HB⟩⟩
    case round =>
     clear H'
     obtain ⟨x6_2, x27_2, rfl, HA, HK2, HO_6, HB⟩ := hrel
     cases gk with
     | zero => exact absurd HA.out (by simp [impl_Clue_76.l1])
     | succ k2 =>
      have H := HA.out; clear HA; simp only [impl_Clue_76.l1] at H
      by_cases c8 : x27_2 < (l0.length : Int)
      ·rw [if_pos c8] at H
       have c8b0 : decide (x27_2 < (l0.length : Int)) = true := decide_eq_true c8; clear c8
       by_cases c9 : 0 ≤ x27_2
       ·rw [if_pos c9] at H
        have c9b0 : decide (0 ≤ x27_2) = true := decide_eq_true c9; clear c9
        by_cases c10 : x27_2 < (l0.length : Int)
        ·rw [if_pos c10] at H
         have c10b0 : decide (x27_2 < (l0.length : Int)) = true := decide_eq_true c10; clear c10
         by_cases c11 : x6_2.length + (rd_L4 l0 x27_2).length < 5864062014805
         ·rw [if_pos c11] at H
          have LMc11 := Aside0.mk c11; clear c11
          obtain ⟨y480, hy480⟩ : ∃ y_ : List (S39), y_ = (x6_2 ++ (rd_L4 l0 x27_2)) := ⟨_, rfl⟩
          replace H : (impl_Clue_76.l1 k2 y480 l0 (l0.length : Int) (wrap64 (x27_2 + 1))) = some r := by first | (rw [hy480]; with_reducible exact H) | (have H2_ := (Option.bind_some _ _).symm.trans H; rw [hy480]; with_reducible exact H2_) | (have H2_ := (Option.bind_some _ _).symm.trans H; with_reducible exact H2_) | with_reducible exact H | (rw [hy480]; exact H) | exact H
          have Ny480 := Aside0.mk hy480; clear hy480; have H' := Aside0.mk H; clear H
          have p479 : 0 ≤ (x27_2 : Int) := of_decide_eq_true zO2_7
          have q479 : x27_2 < (l0.length : Int) := of_decide_eq_true zO2_7
          obtain ⟨ad479, A479_0, c479_0, e479, hx479_0, hl479_0, hi479_0⟩ := at_L4 HR0.out x27_2 p479 q479
          cases e479
          replace hx479_0 := (HB.out.cell (World.block_lt_of_cell? w _ hx479_0)).trans hx479_0
          have HR479_0 := Aside0.mk hi479_0; have HC479_0 := Aside0.mk hl479_0; clear hi479_0 hl479_0; replace p479 := eq_true p479; replace q479 := eq_true q479
          go_wp2_with (first | ((with_reducible refine gate_builtin (b := .append) (xs := #[.tmp 31, .tmp 32]) rfl ?_); at_builtin; refine Kd.R_append_rows k39 (w0 := w) w.heap.size rfl (.tmp 31) (.tmp 32) 28 39 (.agg #[(.int .i64 0), (.int .i64 0), (.int .i64 0)]) 24 rfl Try.underlying28 info39 rfl (by decide) zO2_8 u6 x6_2 (rd_L4 l0 x27_2) _ _ _ (fun _ => True) (fun _ => False) rfl rfl ?aO ?aR (fun _ _ h => h) (fun _ h => h.elim) ?aF ?aB ?aS ?aL ?_; (case aR => repeat (first | exact (Kd.C_below HR479_0.out HB.out) | (with_reducible refine Kd.C_alloc ?_ _) | (with_reducible refine Kd.C_drewN ?_ _) | (with_reducible refine Kd.C_drew ?_))); (case aB => exact (zy HB)); (case aF => exact (fun _ _ => trivial)); (case aO => exact (zs HO_6)); (case aS => exact (below_size (zy HB))); (case aL => have := LMc11.out; omega); intro v481 w12 ho hb hg hat; rw [← Ny480.out] at ho; have HO482 := Aside0.mk (ho); replace HB := Aside0.mk hb; clear HO_6; clear ho hb hg hat))
          go_roundg k2
          case measure => have := HK1.out; have := HK2.out; omega
          case rel => exact ⟨(y480), (wrap64 (x27_2 + 1)), zu, H', ⟨by have := HK1.out; have := HK2.out; omega⟩, zp HO482, ⟨zy HB⟩⟩
         ·rw [if_neg c11] at H
          exact absurd H zO2_9
        ·rw [if_neg c10] at H
         exact absurd H zO2_9
       ·rw [if_neg c9] at H
        exact absurd H zO2_9
      ·rw [if_neg c8] at H
       have c8b0 : decide (x27_2 < (l0.length : Int)) = false := decide_eq_false c8; clear c8
       obtain rfl := Option.some.inj H
       go_wp2
       go_ret
       exact ⟨_, zt, by (with_reducible repeat (first | apply Kd.R_alloc | apply Kd.R_drewN | apply Kd.R_drew)); exact HO_6.out, zy HB⟩


/-! ### impl_without: function 57 -/
def impl_without.f (k : Nat) (l0 : List (S39)) (a1 : Int) : Option ((List (S39))) := if 0 ≤ a1 then (if a1 ≤ (l0.length : Int) then (if 0 ≤ (wrap64 (a1 + 1)) then (if (wrap64 (a1 + 1)) ≤ (l0.length : Int) then ((impl_Clue_76.f k (([(l0.take (a1 : Int).toNat), (l0.drop ((wrap64 (a1 + 1)) : Int).toNat)] : List (List (S39))))).bind fun t496 => (some t496)) else (none)) else (none)) else (none)) else (none)
def impl_without.T1 : Bool × List (List Nat × List Nat) := (true, [([], []), ([], []), ([0, 1], [0, 1]), ([], []), ([], []), ([4], [4]), ([3, 5], [3, 5]), ([2, 6], [2, 6]), ([7], [7]), ([8, 8, 0, 1, 2, 3, 4, 5, 6, 7, 8], [8])])
def impl_without.B1 : List Nat := [0, 0, 3, 0, 0, 16, 56, 127, 255, 511]
theorem impl_without.tab1 : rtab .any (opsOf Try.f57 1) = impl_without.T1 := by kernel_rfl
theorem impl_without.bits1 : waitsOk impl_without.T1.2 impl_without.B1 = true := by kernel_rfl
set_option maxHeartbeats 8000000 in
set_option maxRecDepth 100000 in
theorem impl_without.calls (k : Nat) (P0_ : Nat → Prop) (A0 : Option Addr) (c0 : Nat) (l0 : List (S39)) (a1 : Int) (r : List (S39)) (w : World) (hs0 : Kd.V k39 39 w w.heap.size (fun k_ => P0_ k_) (.slice A0 l0.length c0) l0) (h : impl_without.f k l0 a1 = some r) :
  Calls Try.prog 57 #[.slice A0 l0.length c0, .int .i64 a1] w fun e w' => ∃ v0_ : Value, e = .returned (v0_) ∧ Kd.R k39 39 w' w.heap.size (fun k_ => (w.heap.size ≤ k_)) v0_ r ∧ Below w.heap.size w w' := by
 have HO0 := Aside0.mk (show Kd.V k39 39 w w.heap.size (fun k_ => (P0_ k_ ∨ w.heap.size ≤ k_)) (.slice A0 l0.length c0) l0 from Kd.V_mono hs0 (fun k_ hk => .inl hk))
 have HB := Aside0.mk (Below.refl w.heap.size w)
 have H : (if 0 ≤ a1 then (if a1 ≤ (l0.length : Int) then (if 0 ≤ (wrap64 (a1 + 1)) then (if (wrap64 (a1 + 1)) ≤ (l0.length : Int) then ((impl_Clue_76.f k (([(l0.take (a1 : Int).toNat), (l0.drop ((wrap64 (a1 + 1)) : Int).toNat)] : List (List (S39))))).bind fun t496 => (some t496)) else (none)) else (none)) else (none)) else (none)) = some r := h
 clear h
 by_cases c3 : 0 ≤ a1
 ·rw [if_pos c3] at H
  have c3b0 := eq_true c3
  have c3b1 : decide (0 ≤ a1) = true := decide_eq_true c3
  clear c3
  by_cases c4 : a1 ≤ (l0.length : Int)
  ·rw [if_pos c4] at H
   have c4b0 := eq_true c4
   have c4b1 : decide (a1 ≤ (l0.length : Int)) = true := decide_eq_true c4
   clear c4
   obtain ⟨y483, hy483⟩ : ∃ y_ : List (S39), y_ = (l0.take (a1 : Int).toNat) := ⟨_, rfl⟩
   replace H : (if 0 ≤ (wrap64 (a1 + 1)) then (if (wrap64 (a1 + 1)) ≤ (l0.length : Int) then ((impl_Clue_76.f k (([y483, (l0.drop ((wrap64 (a1 + 1)) : Int).toNat)] : List (List (S39))))).bind fun t496 => (some t496)) else (none)) else (none)) = some r := by first | (rw [hy483]; with_reducible exact H) | (have H2_ := (Option.bind_some _ _).symm.trans H; rw [hy483]; with_reducible exact H2_) | (have H2_ := (Option.bind_some _ _).symm.trans H; with_reducible exact H2_) | with_reducible exact H | (rw [hy483]; exact H) | exact H
   have Ny483 := Aside0.mk hy483; clear hy483
   obtain ⟨ji5, hji5⟩ : ∃ j_ : Int, (wrap64 (a1 + 1)) = j_ := ⟨_, rfl⟩
   replace H : (if 0 ≤ (ji5) then (if (ji5) ≤ (l0.length : Int) then ((impl_Clue_76.f k (([y483, (l0.drop ((ji5) : Int).toNat)] : List (List (S39))))).bind fun t496 => (some t496)) else (none)) else (none)) = some r := by first | (rw [hji5] at H; exact H) | (simp only [hji5] at H ⊢; exact H)
   have hji5w : (IntKind.i64.wrap (a1 + 1)) = ji5 := (i64_w _).trans hji5
   by_cases c6 : 0 ≤ (ji5)
   ·rw [if_pos c6] at H
    have c6b0 := eq_true c6
    have c6b1 : decide (0 ≤ (ji5)) = true := decide_eq_true c6
    clear c6
    by_cases c7 : (ji5) ≤ (l0.length : Int)
    ·rw [if_pos c7] at H
     have c7b0 := eq_true c7
     have c7b1 : decide ((ji5) ≤ (l0.length : Int)) = true := decide_eq_true c7
     clear c7
     obtain ⟨y488, hy488⟩ : ∃ y_ : List (S39), y_ = (l0.drop ((ji5) : Int).toNat) := ⟨_, rfl⟩
     replace H : ((impl_Clue_76.f k (([y483, y488] : List (List (S39))))).bind fun t496 => (some t496)) = some r := by first | (rw [hy488]; with_reducible exact H) | (have H2_ := (Option.bind_some _ _).symm.trans H; rw [hy488]; with_reducible exact H2_) | (have H2_ := (Option.bind_some _ _).symm.trans H; with_reducible exact H2_) | with_reducible exact H | (rw [hy488]; exact H) | exact H
     have Ny488 := Aside0.mk hy488; clear hy488
     obtain ⟨y493, hy493⟩ : ∃ y_ : List (List (S39)), y_ = (([y483, y488] : List (List (S39)))) := ⟨_, rfl⟩
     replace H : ((impl_Clue_76.f k y493).bind fun t496 => (some t496)) = some r := by first | (rw [hy493]; with_reducible exact H) | (have H2_ := (Option.bind_some _ _).symm.trans H; rw [hy493]; with_reducible exact H2_) | (have H2_ := (Option.bind_some _ _).symm.trans H; with_reducible exact H2_) | with_reducible exact H | (rw [hy493]; exact H) | exact H
     have Ny493 := Aside0.mk hy493; clear hy493; replace H := Option.bind_eq_some_iff.mp H; obtain ⟨t496, A80, H⟩ := H
     replace H : (some t496) = some r := H
     have A8 := Aside0.mk A80; clear A80
     obtain rfl := Option.some.inj H
     go_enter Try.func57, Try.ntmps57
     try go_wp2
     have n0_ := Aside0.mk (Kd.V_drew HO0.out)
     replace HB := Aside0.mk (below_drew1 HB.out); clear HO0; have HO0 := n0_; clear n0_
     have q10 : (a1 : Int) ≤ ((l0.length : Int) : Int) := of_decide_eq_true zO2_7
     obtain ⟨i010, hi010, _, hsz10, _⟩ := info_parts info39
     have hroom10 : l0.length ≤ c0 := (Kd.V_reads' HO0.out).2.1
     have hC10 : Kd.F k39 _ _ A0 l0.length l0 := (Kd.V_at (base := w.heap.size) HO0.out).2.2
     have hcut10 := cut_to (P := Try.prog) 28 39 .i64 Try.underlying28 hi010 A0 l0.length c0 a1 (of_decide_eq_true zO2_7) q10 hroom10
     have hr10 := Kd.F_take (m := (a1 : Int).toNat) hC10 zO2_8
     have hy10 : y483.length = (a1 : Int).toNat := (by rw [Ny483.out, List.length_take]; omega)
     rw [← Ny483.out] at hr10
     rw [← hy10] at hcut10
     have HO487 := Aside0.mk (show Kd.V k39 39 _ w.heap.size _ (.slice A0 y483.length c0) y483 from Kd.V_mk zO2_8 hr10)
     have HC487 := Aside0.mk (show y483.length ≤ c0 from by omega)
     clear hr10 hC10 hroom10 hi010 hsz10; have KY10 := Aside0.mk hy10; clear hy10; replace q10 := eq_true q10
     have q11 : ((ji5) : Int) ≤ ((l0.length : Int) : Int) := of_decide_eq_true zO2_7
     obtain ⟨i011, hi011, _, hsz11, _⟩ := info_parts info39
     have hroom11 : l0.length ≤ c0 := (Kd.V_reads' HO0.out).2.1
     have hC11 : Kd.F k39 _ _ A0 l0.length l0 := (Kd.V_at (base := w.heap.size) HO0.out).2.2
     have q011 : (0 : Int) ≤ ((ji5) : Int) := of_decide_eq_true zO2_7
     have hcut11 := cut_from (P := Try.prog) 28 39 .i64 Try.underlying28 hi011 3 hsz11 A0 l0.length c0 (ji5) q011 q11
     have hr11 := Kd.F_cut (m := ((ji5) : Int).toNat) (c := c0) hC11 zO2_8 hroom11
     obtain ⟨A11, hA11⟩ : ∃ A1, A1 = (if c0 = ((ji5) : Int).toNat then A0 else (A0 : Option Addr).map (·.add (((ji5) : Int).toNat * 3))) := ⟨_, rfl⟩
     obtain ⟨c11, hc11⟩ : ∃ c1, c1 = c0 - ((ji5) : Int).toNat := ⟨_, rfl⟩
     have hy11 : y488.length = l0.length - ((ji5) : Int).toNat := (by rw [Ny488.out, List.length_drop] <;> omega)
     rw [show (l0).drop ((ji5) : Int).toNat = y488 from Ny488.out.symm] at hr11
     replace hr11 : Kd.F k39 _ _ A11 y488.length y488 := (by rw [hA11]; exact hr11)
     rw [← hy11, ← hA11, ← hc11] at hcut11
     have HO492 := Aside0.mk (show Kd.V k39 39 _ w.heap.size _ (.slice A11 y488.length c11) y488 from Kd.V_mk (by rw [hy11, hc11]; exact Nat.sub_le_sub_right hroom11 _) hr11)
     have HC492 := Aside0.mk (show y488.length ≤ c11 from by rw [hy11, hc11]; exact Nat.sub_le_sub_right hroom11 _)
     clear hr11 hC11 hroom11 hi011 hsz11 hc11; have KY11 := Aside0.mk hy11; have KA11 := Aside0.mk hA11; clear hy11 hA11; replace q11 := eq_true q11
     refine start_ (n := 10) (S := fun w' => True) (ds := []) #[false, false, false, false, false, false, false, false, false, false] (by kernel_rfl) rfl rfl trivial (fun hHeld => ?_); refine with_tabW impl_without.tab1 impl_without.bits1 (fun HT_ HW_ => ?_)
     generalize w.drew = w9 at HO0 HB HO487 HO492 hHeld ⊢
     refine zA 0 5 HT_ ?_
     refine zA 1 6 HT_ ?_
     refine zA 2 7 HT_ ?_
     refine zA 3 8 HT_ ?_
     refine zA 4 9 HT_ ?_
     refine zA 5 10 HT_ ?_
     refine zA 6 11 HT_ ?_
     refine zO 7 (some 12) HT_ (fun K hK => ?_)
     refine Kd.N_lit_step (Kd.slice 39 k39) _ 28 ?hg (N' := 12) ?hd (xs := ([y483, y488] : List (List (S39)))) (inner := [.slice A0 y483.length c0, .slice A11 y488.length c11]) (ok := (fun k_ => (P0_ k_ ∨ w.heap.size ≤ k_))) (okp := (fun k_ => (P0_ k_ ∨ w.heap.size ≤ k_))) ?hr ?hp (fun _ hk => hk) ((show ∀ k_, w9.heap.size ≤ k_ → (fun k_ => (P0_ k_ ∨ w.heap.size ≤ k_)) k_ from fun k_ hk => (.inr (Nat.le_trans (below_size (zy HB)) hk))) _ (Nat.le_refl _)) (Below.refl _ _) (Nat.le_refl _) zO2_9 ?_; (case hd => rfl); (case hg => rfl); (case hr => first | (go_simp; done) | (go_simp; rfl)); (case hp => exact (Reps.one (show Kd.FK (Kd.slice 39 k39) _ _ y483 [.slice A0 y483.length c0] from (Kd.FK_slice_mk (Kd.V_reads' (Kd.V_mono (ok' := (fun k_ => (P0_ k_ ∨ w.heap.size ≤ k_))) (HO487.out) (fun k_ hk => hk))).2.1 (Kd.V_F (Kd.V_mono (ok' := (fun k_ => (P0_ k_ ∨ w.heap.size ≤ k_))) (HO487.out) (fun k_ hk => hk))))) (Reps.one (show Kd.FK (Kd.slice 39 k39) _ _ y488 [.slice A11 y488.length c11] from (Kd.FK_slice_mk (Kd.V_reads' (Kd.V_mono (ok' := (fun k_ => (P0_ k_ ∨ w.heap.size ≤ k_))) (HO492.out) (fun k_ hk => hk))).2.1 (Kd.V_F (Kd.V_mono (ok' := (fun k_ => (P0_ k_ ∨ w.heap.size ≤ k_))) (HO492.out) (fun k_ hk => hk))))) (Reps.none _ _))))
     intro v494 w12 ho13 hb hg_ hnew_
     clear hg_ hnew_
     (first | rw [← Ny493.out] at ho13 | (simp only [Int.reduceToNat] at ho13; rw [← Ny493.out] at ho13))
     have n0_ := Aside0.mk (Kd.V_elder' zO2_5 (Kd.N_base ho13) hb)
     have n1_ := Aside0.mk (Kd.V_elder' zO2_3 (Kd.N_base ho13) hb)
     have n2_ := Aside0.mk (Kd.V_elder' zO2_4 (Kd.N_base ho13) hb)
     have HO495 := Aside0.mk (Kd.N_lower ho13 (below_size (zy HB)))
     replace HB := zh HB hb; clear HO0; have HO0 := n0_; clear n0_; clear HO487; have HO487 := n1_; clear n1_; clear HO492; have HO492 := n2_; clear n2_; clear hb ho13
     obtain ⟨Ao14, co14, eo14⟩ := Kd.N_slice HO495.out
     (first | subst eo14 | (injection eo14 with f1_ f2_ f3_; have f4_ := f1_.symm; have f5_ := f3_.symm; clear f1_ f2_ f3_; subst f4_; subst f5_))
     refine hK.out _ _ trivial (fun hHeld => ?_)
     clear hK K
     refine zN 12 ?_
     refine zO 8 (some 13) HT_ (fun K hK => ?_)
     refine goes_ Try.func76 (by kernel_rfl) rfl #[.slice Ao14 y493.length co14] (by rfl) rfl rfl zO2_1 ?_
     with_reducible refine (impl_Clue_76.calls k _ _ y493 t496 _ ?side1 ?side2 A8.out).mono ?_
     (case side1 => repeat (first | exact (Kd.N_reads' HO495.out).2.2 | (with_reducible refine Kd.C_alloc ?_ _) | (with_reducible refine Kd.C_drewN ?_ _) | (with_reducible refine Kd.C_drew ?_)))
     (case side2 => exact (Kd.N_reads' HO495.out).2.1)
     rintro e w15 ⟨v497, rfl, ho0, hb⟩
     refine ⟨_, rfl, ?_⟩
     have n0_ := Aside0.mk (Kd.V_elder' zO2_5 (Kd.R_base ho0) hb)
     have n1_ := Aside0.mk (Kd.V_elder' zO2_3 (Kd.R_base ho0) hb)
     have n2_ := Aside0.mk (Kd.V_elder' zO2_4 (Kd.R_base ho0) hb)
     have n3_ := Aside0.mk (Kd.N_elder' (by (with_reducible repeat (first | apply Kd.N_alloc | apply Kd.N_drewN | apply Kd.N_drew)); exact HO495.out) (Kd.R_base ho0) hb)
     have HO498 := Aside0.mk (Kd.R_lower (Kd.R_newM (M := fun k_ => (w.heap.size ≤ k_)) ho0 (below_size (zy HB)) (fun k_ h_ => h_)) (below_size (zy HB)))
     replace HB := zh HB hb; clear HO0; have HO0 := n0_; clear n0_; clear HO487; have HO487 := n1_; clear n1_; clear HO492; have HO492 := n2_; clear n2_; clear HO495; have HO495 := n3_; clear n3_
     (try clear hb)
     (try clear hb2)
     (try clear hk)
     (try clear hi)
     (try clear ho0)
     refine hK.out _ _ trivial (fun hHeld => ?_)
     clear hK K
     refine zN 13 ?_
     refine zA 9 4 HT_ ?_
     refine done_ (done_of HT_.out (by kernel_rfl)) ?_
     try go_wp2
     go_ret
     exact ⟨_, by first | rfl | (simp [errW_none, errW_some] <;> rfl) | (simp only [← hji5]; first | rfl | (simp [errW_none, errW_some] <;> rfl)) | (simp [*, errW_none, errW_some] <;> rfl), by (with_reducible repeat (first | apply Kd.R_alloc | apply Kd.R_drewN | apply Kd.R_drew)); exact Kd.R_mono HO498.out (fun _ hk => hk.1), zy HB⟩
    ·rw [if_neg c7] at H
     exact absurd H zO2_9
   ·rw [if_neg c6] at H
    exact absurd H zO2_9
  ·rw [if_neg c4] at H
   exact absurd H zO2_9
 ·rw [if_neg c3] at H
  exact absurd H zO2_9


/-! ### impl_HarderPuzzle: function 15 -/
mutual
def impl_HarderPuzzle.j0 : Nat → Bool → Int → List (S39) → Option (Int × (List (S39)) × Bool)
 | 0, _, _, _ => none
 | k + 1, x17, x500000, x500001 => if x17 = true then (some (0, ([] : List (S39)), false)) else ((impl_Clue_56.f x500001).bind fun t503 => (impl_HarderPuzzle.l0 k t503 0 x500000 x500001))
def impl_HarderPuzzle.l0 : Nat → List (S39) → Int → Int → List (S39) → Option (Int × (List (S39)) × Bool)
 | 0, _, _, _, _ => none
 | k + 1, x4, x5, x500000, x500001 => if x5 < (x4.length : Int) then ((impl_without.f k x4 x5).bind fun t506 => ((impl_isSolved.f k x500000 t506).bind fun t509 => (if t509 = true then (impl_HarderPuzzle.l0 k t506 x5 x500000 x500001) else (impl_HarderPuzzle.l0 k x4 (wrap64 (x5 + 1)) x500000 x500001)))) else (some (x500000, x4, true))
end
def impl_HarderPuzzle.f (k : Nat) (a0_0 : Int) (l0_1 : List (S39)) : Option (Int × (List (S39)) × Bool) := (impl_IsPuzzle.f k a0_0 l0_1).bind fun t501 => (if t501 = true then ((impl_isSolved.f k a0_0 l0_1).bind fun t502 => (impl_HarderPuzzle.j0 k (!t502) a0_0 l0_1)) else (impl_HarderPuzzle.j0 k true a0_0 l0_1))
set_option maxHeartbeats 8000000 in
set_option maxRecDepth 100000 in
theorem impl_HarderPuzzle.calls (k : Nat) (a0_0 : Int) (A0_1 : Option Addr) (c0_1 : Nat) (l0_1 : List (S39)) (r1 : Int) (r2 : List (S39)) (r3 : Bool) (w : World) (hr0_1 : Kd.C k39 w A0_1 l0_1.length l0_1) (hc0_1 : l0_1.length ≤ c0_1) (h : impl_HarderPuzzle.f k a0_0 l0_1 = some (r1, r2, r3)) :
  Calls Try.prog 15 #[.agg #[.int .i64 a0_0, .slice A0_1 l0_1.length c0_1]] w fun e w' => ∃ v1_ : Value, e = .returned (.tuple #[.agg #[.int .i64 r1, v1_], .bool r3]) ∧ Kd.R k39 39 w' w.heap.size (fun _ => True) v1_ r2 ∧ Below w.heap.size w w' := by
 have hu30 := Try.underlying30; have HR0_1 := Aside0.mk hr0_1; have HC0_1 := Aside0.mk hc0_1; clear hr0_1 hc0_1
 have HB := Aside0.mk (Below.refl w.heap.size w)
 have H : ((impl_IsPuzzle.f k a0_0 l0_1).bind fun t501 => (if t501 = true then ((impl_isSolved.f k a0_0 l0_1).bind fun t502 => (impl_HarderPuzzle.j0 k (!t502) a0_0 l0_1)) else (impl_HarderPuzzle.j0 k true a0_0 l0_1))) = some (r1, r2, r3) := h
 clear h; have HC2 := Aside0.mk H; clear H
 go_enter Try.func15, Try.ntmps15
 go_upto_region 1 with (first | ((with_reducible refine gate_dst (N := 1) rfl ?_); refine zE 1 #[.int .i64 a0_0, .slice A0_1 l0_1.length c0_1] 30 ?_; intro gb499 hg w3 hbox hb; have BK499 := Aside0.mk (hbox); have GW499 := zg HB hg; have GE499 := GW499; replace HB := zh HB hb; clear hb hbox hg) | ((with_reducible refine gate_dst (N := 2) rfl ?_); refine zE 2 #[.int .i64 0, .slice none 0 0] 30 ?_; intro gb500 hg w4 hbox hb; have BK500 := Aside0.mk (hbox); have GW500 := zg HB hg; have GE500 := GW500; have NB499_500 := zl BK499 hg; have NB500_499 := zr BK499 hg; replace BK499 := zb BK499 hb; replace HB := zh HB hb; clear hb hbox hg))
 (try simp only [Act.put, List.setIfInBounds_toArray, List.set_cons_zero, List.set_cons_succ])
 go_cut [17] (fun v17 wc => ∃ (kq : Nat) (x17_1 : Bool), v17 = .bool x17_1 ∧ Aside0 (impl_HarderPuzzle.j0 kq x17_1 a0_0 l0_1 = some (r1, r2, r3)) ∧ Aside0 (kq ≤ k) ∧ Aside0 (wc.heap[gb499]? = some (.cells #[.int .i64 a0_0, (.slice A0_1 l0_1.length c0_1)] 30 (0, 0))) ∧ Aside0 (wc.heap[gb500]? = some (.cells #[.int .i64 0, (.slice none 0 0)] 30 (0, 0))) ∧ Aside0 (Below w.heap.size w wc))
 case first =>
  have H := HC2.out; clear HC2; replace H := Option.bind_eq_some_iff.mp H; obtain ⟨t501, A50, H⟩ := H; (try dsimp only at H); have A5 := Aside0.mk A50; clear A50
  by_cases c6 : t501 = true
  ·subst c6
   rw [if_pos rfl] at H; replace H := Option.bind_eq_some_iff.mp H; obtain ⟨t502, A70, H⟩ := H
   replace H : (impl_HarderPuzzle.j0 k (!t502) a0_0 l0_1) = some (r1, r2, r3) := H
   have A7 := Aside0.mk A70; clear A70; have H' := Aside0.mk H; clear H; have hnb8 := NB499_500.out; have hnc8 := NB500_499.out
   obtain ⟨_, _, _, _⟩ := zc2 BK499
   go_wp2_with (first | ((with_reducible refine gate_callee (f := 13) rfl ?_); refine zG (some 8) Try.func13 #[.agg #[.int .i64 a0_0, .slice A0_1 l0_1.length c0_1]] ?_; (with_reducible refine (impl_IsPuzzle.calls k a0_0 _ _ l0_1 true _ ?side1 ?side2 A5.out).mono ?_); (case side1 => repeat (first | exact (Kd.C_below HR0_1.out HB.out) | (with_reducible refine Kd.C_alloc ?_ _) | (with_reducible refine Kd.C_drewN ?_ _) | (with_reducible refine Kd.C_drew ?_))); (case side2 => exact HC0_1.out); rintro e w10 ⟨rfl, hb⟩; refine ⟨_, rfl, ?_⟩; replace BK499 := zb BK499 hb; replace BK500 := zb BK500 hb; replace HB := zh HB hb; clear hb; obtain ⟨_, _, _, _⟩ := zc2 BK499) | (go_at_call 55; (with_reducible refine (impl_isSolved.calls k a0_0 _ _ l0_1 t502 _ ?side1 ?side2 A7.out).mono ?_); (case side1 => repeat (first | exact (Kd.C_below HR0_1.out HB.out) | (with_reducible refine Kd.C_alloc ?_ _) | (with_reducible refine Kd.C_drewN ?_ _) | (with_reducible refine Kd.C_drew ?_))); (case side2 => exact HC0_1.out); rintro e w12 ⟨rfl, hb⟩; replace BK499 := zb BK499 hb; replace BK500 := zb BK500 hb; replace HB := zh HB hb; clear hb))
   go_meet
   case rel => exact ⟨_, (!t502), zu, H', ⟨by first | omega | exact Nat.le_refl _⟩, zk BK499, zk BK500, ⟨zy HB⟩⟩
  ·replace c6 := Bool.eq_false_iff.mpr c6
   subst c6; rw [if_neg (show ¬ (false = true) by decide)] at H; have H' := Aside0.mk H; clear H; have hnb13 := NB499_500.out; have hnc13 := NB500_499.out
   obtain ⟨_, _, _, _⟩ := zc2 BK499
   go_wp2_with (first | ((with_reducible refine gate_callee (f := 13) rfl ?_); refine zG (some 8) Try.func13 #[.agg #[.int .i64 a0_0, .slice A0_1 l0_1.length c0_1]] ?_; (with_reducible refine (impl_IsPuzzle.calls k a0_0 _ _ l0_1 false _ ?side1 ?side2 A5.out).mono ?_); (case side1 => repeat (first | exact (Kd.C_below HR0_1.out HB.out) | (with_reducible refine Kd.C_alloc ?_ _) | (with_reducible refine Kd.C_drewN ?_ _) | (with_reducible refine Kd.C_drew ?_))); (case side2 => exact HC0_1.out); rintro e w15 ⟨rfl, hb⟩; refine ⟨_, rfl, ?_⟩; replace BK499 := zb BK499 hb; replace BK500 := zb BK500 hb; replace HB := zh HB hb; clear hb))
   go_meet
   case rel => exact ⟨_, (true), zu, H', ⟨by first | omega | exact Nat.le_refl _⟩, zk BK499, zk BK500, ⟨zy HB⟩⟩
 case rest =>
  clear HC2
  obtain ⟨kq, x17_1, rfl, HA, HJ1, BK499, BK500, HB⟩ := hcut
  cases kq with
  | zero => exact absurd HA.out (by simp [impl_HarderPuzzle.j0])
  | succ kj1 =>
   have H := HA.out; clear HA; simp only [impl_HarderPuzzle.j0] at H
   by_cases c16 : x17_1 = true
   ·subst c16
    rw [if_pos rfl] at H; simp only [Option.some.injEq, Prod.mk.injEq] at H; obtain ⟨rfl, rfl, rfl⟩ := H; have hnb17 := NB500_499.out; have hnc17 := NB499_500.out
    obtain ⟨_, _, _, _⟩ := zc2 BK500
    go_wp2
    refine bodyPost_ret (results_ct rfl _ _ gb500 30 #[.int .i64 0, .slice none 0 0] (0, 0) _ rfl (zw BK500) Try.underlying30 rfl (by kernel_rfl)) rfl ?_
    exact ⟨_, zt, by first | exact Kd.R_nil _ _ _ _ _ | exact Kd.N_nil _ _ _ _ _ | exact Kd.V_nil _ _ _ _ _ | exact Kd.Q_nil _ _ _ _ _ | exact Kd.S_nil _ _ _ _ _, zy HB⟩
   ·replace c16 := Bool.eq_false_iff.mpr c16
    subst c16; rw [if_neg (show ¬ (false = true) by decide)] at H; replace H := Option.bind_eq_some_iff.mp H; obtain ⟨t503, A190, H⟩ := H
    replace H : (impl_HarderPuzzle.l0 kj1 t503 0 a0_0 l0_1) = some (r1, r2, r3) := H
    have A19 := Aside0.mk A190; clear A190; have H' := Aside0.mk H; clear H; have hnb20 := NB499_500.out; have hnc20 := NB500_499.out
    obtain ⟨_, _, _, _⟩ := zc2 BK499
    go_wp2_with (first | ((with_reducible refine gate_callee (f := 56) rfl ?_); refine zG (some 21) Try.func56 #[.slice A0_1 l0_1.length c0_1] ?_; (with_reducible refine (impl_Clue_56.calls _ _ l0_1 t503 _ ?side1 ?side2 A19.out).mono ?_); (case side1 => repeat (first | exact (Kd.C_below HR0_1.out HB.out) | (with_reducible refine Kd.C_alloc ?_ _) | (with_reducible refine Kd.C_drewN ?_ _) | (with_reducible refine Kd.C_drew ?_))); (case side2 => exact HC0_1.out); rintro e w22 ⟨v504, rfl, ho0, hb⟩; refine ⟨_, rfl, ?_⟩; have HO505 := Aside0.mk (Kd.R_lower ho0 (below_size (zy HB))); replace BK499 := zb BK499 hb; replace BK500 := zb BK500 hb; replace HB := zh HB hb; clear hb ho0))
    go_loopg [4, 5] kj1 (fun kq v4 v5 w' => ∃ (x4_2 : List (S39)) (x5_2 : Int), v5 = .int .i64 x5_2 ∧ Aside0 (impl_HarderPuzzle.l0 kq x4_2 x5_2 a0_0 l0_1 = some (r1, r2, r3)) ∧ Aside0 (kq ≤ kj1) ∧ Aside0 (Kd.R k39 39 w' w.heap.size (fun _ => True) v4 x4_2) ∧ Aside0 (w'.heap[gb499]? = some (.cells #[.int .i64 a0_0, (.slice A0_1 l0_1.length c0_1)] 30 (0, 0))) ∧ Aside0 (w'.heap[gb500]? = some (.cells #[.int .i64 0, (.slice none 0 0)] 30 (0, 0))) ∧ Aside0 (Below w.heap.size w w'))
    case atStart => exact ⟨(t503), (0), zu, H', ⟨Nat.le_refl _⟩, zp HO505, zk BK499, zk BK500, ⟨zy HB⟩⟩
    case round =>
     clear H'
     obtain ⟨x4_2, x5_2, rfl, HA, HK2, HO_4, BK499, BK500, HB⟩ := hrel
     cases gk with
     | zero => exact absurd HA.out (by simp [impl_HarderPuzzle.l0])
     | succ k2 =>
      have H := HA.out; clear HA; simp only [impl_HarderPuzzle.l0] at H
      by_cases c23 : x5_2 < (x4_2.length : Int)
      ·rw [if_pos c23] at H
       have c23b0 : decide (x5_2 < (x4_2.length : Int)) = true := decide_eq_true c23; clear c23; replace H := Option.bind_eq_some_iff.mp H; obtain ⟨t506, A240, H⟩ := H; (try dsimp only at H); have A24 := Aside0.mk A240; clear A240; replace H := Option.bind_eq_some_iff.mp H; obtain ⟨t509, A250, H⟩ := H
       replace H : (if t509 = true then (impl_HarderPuzzle.l0 k2 t506 x5_2 a0_0 l0_1) else (impl_HarderPuzzle.l0 k2 x4_2 (wrap64 (x5_2 + 1)) a0_0 l0_1)) = some (r1, r2, r3) := H
       have A25 := Aside0.mk A250; clear A250
       by_cases c26 : t509 = true
       ·subst c26
        rw [if_pos rfl] at H; have H' := Aside0.mk H; clear H
        obtain ⟨Ao27, co27, eo27⟩ := Kd.R_slice HO_4.out
        subst eo27
        go_wp2_with (first | ((with_reducible refine gate_callee (f := 57) rfl ?_); refine zG (some 28) Try.func57 #[.slice Ao27 x4_2.length co27, .int .i64 x5_2] ?_; (with_reducible refine (impl_without.calls k2 (fun k_ => some k_ = (.slice Ao27 x4_2.length co27 : Value).ownBlock) _ _ x4_2 x5_2 t506 _ ?side1 A24.out).mono ?_); (case side1 => exact Kd.R_V (Kd.R_tight rfl (Kd.R_types (Kd.R_types (HO_4.out) BK499.out (by decide)) BK500.out (by decide)))); rintro e w28 ⟨v507, rfl, ho0, hb⟩; refine ⟨_, rfl, ?_⟩; have n0_ := Aside0.mk (Kd.R_elder' (zs HO_4) (Kd.R_base ho0) hb); have HO508 := Aside0.mk (Kd.R_lower (Kd.R_new' (Kd.R_mono (ok' := fun k_ => True) ho0 (fun _ hk_ => trivial)) (Kd.R_lt (zs HO_4))) (below_size (zy HB))); replace BK499 := zb BK499 hb; replace BK500 := zb BK500 hb; replace HB := zh HB hb; clear HO_4; have HO_4 := n0_; clear n0_; clear hb ho0; have hnb29 := NB499_500.out; have hnc29 := NB500_499.out; obtain ⟨_, _, _, _⟩ := zc2 BK499; obtain ⟨Ao31, co31, eo31⟩ := Kd.R_slice HO508.out; subst eo31) | ((with_reducible refine gate_callee (f := 55) rfl ?_); refine zG (some 32) Try.func55 #[.int .i64 a0_0, .slice Ao31 t506.length co31] ?_; (with_reducible refine (impl_isSolved.calls k2 a0_0 _ _ t506 true _ ?side1 ?side2 A25.out).mono ?_); (case side1 => repeat (first | exact (Kd.R_reads' HO508.out).2.2 | (with_reducible refine Kd.C_alloc ?_ _) | (with_reducible refine Kd.C_drewN ?_ _) | (with_reducible refine Kd.C_drew ?_))); (case side2 => exact (Kd.R_reads' HO508.out).2.1); rintro e w32 ⟨rfl, hb⟩; refine ⟨_, rfl, ?_⟩; replace HO_4 := zo HO_4 hb; replace HO508 := zo HO508 hb; replace BK499 := zb BK499 hb; replace BK500 := zb BK500 hb; replace HB := zh HB hb; clear hb))
        go_roundg k2
        case measure => have := HJ1.out; have := HK2.out; omega
        case rel => exact ⟨(t506), (x5_2), zu, H', ⟨by have := HJ1.out; have := HK2.out; omega⟩, ⟨by (with_reducible repeat (first | apply Kd.R_alloc | apply Kd.R_drewN | apply Kd.R_drew)); exact Kd.R_mono HO508.out (fun _ hk => trivial)⟩, zk BK499, zk BK500, ⟨zy HB⟩⟩
       ·replace c26 := Bool.eq_false_iff.mpr c26
        subst c26; rw [if_neg (show ¬ (false = true) by decide)] at H; have H' := Aside0.mk H; clear H
        obtain ⟨Ao33, co33, eo33⟩ := Kd.R_slice HO_4.out
        subst eo33
        go_wp2_with (first | ((with_reducible refine gate_callee (f := 57) rfl ?_); refine zG (some 28) Try.func57 #[.slice Ao33 x4_2.length co33, .int .i64 x5_2] ?_; (with_reducible refine (impl_without.calls k2 (fun k_ => some k_ = (.slice Ao33 x4_2.length co33 : Value).ownBlock) _ _ x4_2 x5_2 t506 _ ?side1 A24.out).mono ?_); (case side1 => exact Kd.R_V (Kd.R_tight rfl (Kd.R_types (Kd.R_types (HO_4.out) BK499.out (by decide)) BK500.out (by decide)))); rintro e w34 ⟨v507, rfl, ho0, hb⟩; refine ⟨_, rfl, ?_⟩; have n0_ := Aside0.mk (Kd.R_elder' (zs HO_4) (Kd.R_base ho0) hb); have HO508 := Aside0.mk (Kd.R_lower (Kd.R_new' (Kd.R_mono (ok' := fun k_ => True) ho0 (fun _ hk_ => trivial)) (Kd.R_lt (zs HO_4))) (below_size (zy HB))); replace BK499 := zb BK499 hb; replace BK500 := zb BK500 hb; replace HB := zh HB hb; clear HO_4; have HO_4 := n0_; clear n0_; clear hb ho0; have hnb35 := NB499_500.out; have hnc35 := NB500_499.out; obtain ⟨_, _, _, _⟩ := zc2 BK499; obtain ⟨Ao37, co37, eo37⟩ := Kd.R_slice HO508.out; subst eo37) | ((with_reducible refine gate_callee (f := 55) rfl ?_); refine zG (some 32) Try.func55 #[.int .i64 a0_0, .slice Ao37 t506.length co37] ?_; (with_reducible refine (impl_isSolved.calls k2 a0_0 _ _ t506 false _ ?side1 ?side2 A25.out).mono ?_); (case side1 => repeat (first | exact (Kd.R_reads' HO508.out).2.2 | (with_reducible refine Kd.C_alloc ?_ _) | (with_reducible refine Kd.C_drewN ?_ _) | (with_reducible refine Kd.C_drew ?_))); (case side2 => exact (Kd.R_reads' HO508.out).2.1); rintro e w38 ⟨rfl, hb⟩; refine ⟨_, rfl, ?_⟩; replace HO_4 := zo HO_4 hb; replace HO508 := zo HO508 hb; replace BK499 := zb BK499 hb; replace BK500 := zb BK500 hb; replace HB := zh HB hb; clear hb))
        go_roundg k2
        case measure => have := HJ1.out; have := HK2.out; omega
        case rel => exact ⟨(x4_2), (wrap64 (x5_2 + 1)), zu, H', ⟨by have := HJ1.out; have := HK2.out; omega⟩, ⟨by (with_reducible repeat (first | apply Kd.R_alloc | apply Kd.R_drewN | apply Kd.R_drew)); exact Kd.R_mono HO_4.out (fun _ hk => trivial)⟩, zk BK499, zk BK500, ⟨zy HB⟩⟩
      ·rw [if_neg c23] at H
       have c23b0 : decide (x5_2 < (x4_2.length : Int)) = false := decide_eq_false c23; clear c23; simp only [Option.some.injEq, Prod.mk.injEq] at H; obtain ⟨rfl, rfl, rfl⟩ := H
       obtain ⟨Ao39, co39, eo39⟩ := Kd.R_slice HO_4.out
       subst eo39; have hnb40 := NB499_500.out; have hnc40 := NB500_499.out
       obtain ⟨_, _, _, _⟩ := zc2 BK499
       obtain ⟨_, _, _, _⟩ := zc2 BK500
       go_wp2
       refine bodyPost_ret (results_ct rfl _ _ gb500 30 #[.int .i64 a0_0, .slice Ao39 x4_2.length co39] (0, 0) _ rfl (zw BK500) Try.underlying30 rfl (by kernel_rfl)) rfl ?_
       exact ⟨_, zt, by (with_reducible repeat (first | apply Kd.R_alloc | apply Kd.R_drewN | apply Kd.R_drew)); exact Kd.R_mono (Kd.R_far (p := ⟨gb500, 1, none⟩) (Kd.R_far (p := ⟨gb500, 0, none⟩) (Kd.R_types HO_4.out BK500.out (by decide)) (fun _ hk => hk.2) (.int .i64 a0_0)) (fun _ hk => hk.2) (.slice Ao39 x4_2.length co39)) (fun _ hk => trivial), zy HB⟩


/-! ### spec_pzClue: function 64 -/
mutual
def spec_pzClue.j0 : Nat → Bool → Int → Int → Int → Option (Bool)
 | 0, _, _, _, _ => none
 | k + 1, x12, x511000, x511001, x511002 => if x12 = true then (some false) else (if x511000 = 0 then (spec_pzClue.j1 k x511000 (x511000 == 0) x511000 x511001 x511002) else (spec_pzClue.j1 k x511000 (x511000 == 5) x511000 x511001 x511002))
def spec_pzClue.j1 : Nat → Int → Bool → Int → Int → Int → Option (Bool)
 | 0, _, _, _, _, _ => none
 | k + 1, x14, x15, x511000, x511001, x511002 => if x15 = true then (some (x511001 == 0)) else (if x14 = 1 then (if x511001 = 0 then (some (decide (x511002 < 2))) else (some false)) else (if x14 = 2 then (spec_pzClue.j2 k x14 (x14 == 2) x511000 x511001 x511002) else (spec_pzClue.j2 k x14 (x14 == 4) x511000 x511001 x511002)))
def spec_pzClue.j2 : Nat → Int → Bool → Int → Int → Int → Option (Bool)
 | 0, _, _, _, _, _ => none
 | k + 1, x14, x31, x511000, x511001, x511002 => if x31 = true then (some (decide (x511002 > 0))) else (if x14 = 3 then (if x511001 < 2 then (some (decide (x511002 < 2))) else (some false)) else (some false))
end
def spec_pzClue.f (k : Nat) (a0_0 : Int) (a0_1 : Int) (a0_2 : Int) : Option (Bool) := (spec_l1In.f a0_1 0 200).bind fun t511 => (if t511 = true then ((spec_l1In.f a0_2 0 200).bind fun t512 => (spec_pzClue.j0 k (!t512) a0_0 a0_1 a0_2)) else (spec_pzClue.j0 k true a0_0 a0_1 a0_2))
set_option maxHeartbeats 8000000 in
set_option maxRecDepth 100000 in
theorem spec_pzClue.calls (k : Nat) (a0_0 : Int) (a0_1 : Int) (a0_2 : Int) (r : Bool) (w : World) (h : spec_pzClue.f k a0_0 a0_1 a0_2 = some r) :
  Calls Try.prog 64 #[.agg #[.int .i64 a0_0, .int .i64 a0_1, .int .i64 a0_2]] w fun e w' => e = .returned (.bool r) ∧ Below w.heap.size w w' := by
 have hu39 := Try.underlying39
 have HB := Aside0.mk (Below.refl w.heap.size w)
 have H : ((spec_l1In.f a0_1 0 200).bind fun t511 => (if t511 = true then ((spec_l1In.f a0_2 0 200).bind fun t512 => (spec_pzClue.j0 k (!t512) a0_0 a0_1 a0_2)) else (spec_pzClue.j0 k true a0_0 a0_1 a0_2))) = some r := h
 clear h; have HC2 := Aside0.mk H; clear H
 go_enter Try.func64, Try.ntmps64
 go_upto_region 1 with (first | ((with_reducible refine gate_dst (N := 1) rfl ?_); refine zE 1 #[.int .i64 a0_0, .int .i64 a0_1, .int .i64 a0_2] 39 ?_; intro gb510 hg w3 hbox hb; have BK510 := Aside0.mk (hbox); have GW510 := zg HB hg; have GE510 := GW510; replace HB := zh HB hb; clear hb hbox hg))
 (try simp only [Act.put, List.setIfInBounds_toArray, List.set_cons_zero, List.set_cons_succ])
 go_cut [12] (fun v12 wc => ∃ (kq : Nat) (x12_1 : Bool), v12 = .bool x12_1 ∧ Aside0 (spec_pzClue.j0 kq x12_1 a0_0 a0_1 a0_2 = some r) ∧ Aside0 (kq ≤ k) ∧ Aside0 (wc.heap[gb510]? = some (.cells #[.int .i64 a0_0, .int .i64 a0_1, .int .i64 a0_2] 39 (0, 0))) ∧ Aside0 (Below w.heap.size w wc))
 case first =>
  have H := HC2.out; clear HC2; replace H := Option.bind_eq_some_iff.mp H; obtain ⟨t511, A40, H⟩ := H; (try dsimp only at H); have A4 := Aside0.mk A40; clear A40
  by_cases c5 : t511 = true
  ·subst c5
   rw [if_pos rfl] at H; replace H := Option.bind_eq_some_iff.mp H; obtain ⟨t512, A60, H⟩ := H
   replace H : (spec_pzClue.j0 k (!t512) a0_0 a0_1 a0_2) = some r := H
   have A6 := Aside0.mk A60; clear A60; have H' := Aside0.mk H; clear H
   obtain ⟨_, _, _, _, _, _⟩ := zc3 BK510
   go_wp2_with (first | ((with_reducible refine gate_callee (f := 42) rfl ?_); refine zG (some 5) Try.func42 #[.int .i64 a0_1, .int .i64 0, .int .i64 200] ?_; (with_reducible refine (spec_l1In.calls a0_1 0 200 true _ A4.out).mono ?_); rintro e w' ⟨rfl, ⟨nd, rfl⟩⟩; refine ⟨_, rfl, ?_⟩) | (go_at_call 42; (with_reducible refine (spec_l1In.calls a0_2 0 200 t512 _ A6.out).mono ?_); rintro e w' ⟨rfl, ⟨nd, rfl⟩⟩))
   go_meet
   case rel => exact ⟨_, (!t512), zu, H', ⟨by first | omega | exact Nat.le_refl _⟩, zk BK510, ⟨zy HB⟩⟩
  ·replace c5 := Bool.eq_false_iff.mpr c5
   subst c5; rw [if_neg (show ¬ (false = true) by decide)] at H; have H' := Aside0.mk H; clear H
   obtain ⟨_, _, _, _, _, _⟩ := zc3 BK510
   go_wp2_with (first | ((with_reducible refine gate_callee (f := 42) rfl ?_); refine zG (some 5) Try.func42 #[.int .i64 a0_1, .int .i64 0, .int .i64 200] ?_; (with_reducible refine (spec_l1In.calls a0_1 0 200 false _ A4.out).mono ?_); rintro e w' ⟨rfl, ⟨nd, rfl⟩⟩; refine ⟨_, rfl, ?_⟩))
   go_meet
   case rel => exact ⟨_, (true), zu, H', ⟨by first | omega | exact Nat.le_refl _⟩, zk BK510, ⟨zy HB⟩⟩
 case rest =>
  clear HC2
  obtain ⟨kq, x12_1, rfl, HA, HJ1, BK510, HB⟩ := hcut
  cases kq with
  | zero => exact absurd HA.out (by simp [spec_pzClue.j0])
  | succ kj1 =>
   have H := HA.out; clear HA; simp only [spec_pzClue.j0] at H
   by_cases c9 : x12_1 = true
   ·subst c9
    rw [if_pos rfl] at H
    obtain rfl := Option.some.inj H
    go_wp2
    go_ret
    exact ⟨zt, zy HB⟩
   ·replace c9 := Bool.eq_false_iff.mpr c9
    subst c9; rw [if_neg (show ¬ (false = true) by decide)] at H; have HC10 := Aside0.mk H; clear H
    obtain ⟨_, _, _, _, _, _⟩ := zc3 BK510
    go_upto_if 15 with (fail)
    go_cut [15] (fun v15 wc => ∃ (kq : Nat) (x15_9 : Bool), v15 = .bool x15_9 ∧ Aside0 (spec_pzClue.j1 kq a0_0 x15_9 a0_0 a0_1 a0_2 = some r) ∧ Aside0 (kq ≤ kj1) ∧ Aside0 (wc.heap[gb510]? = some (.cells #[.int .i64 a0_0, .int .i64 a0_1, .int .i64 a0_2] 39 (0, 0))) ∧ Aside0 (Below w.heap.size w wc))
    case first =>
     have H := HC10.out; clear HC10
     by_cases c12 : a0_0 = 0
     ·rw [if_pos c12] at H
      have c12b0 : (a0_0 == 0) = true := beq_iff_eq.mpr c12
      have c12b1 : (a0_0 != 0) = false := bne_eq_false_iff_eq.mpr c12
      clear c12
      (first | rw [c12b0] | (simp only [i64_w, i32_w]; rw [c12b0]) | skip)
      have H' := Aside0.mk H; clear H
      go_wp2
      go_meet
      case rel => exact ⟨_, ((a0_0 == 0)), zu, H', ⟨by have := HJ1.out; first | omega | exact Nat.le_refl _⟩, zk BK510, ⟨zy HB⟩⟩
     ·rw [if_neg c12] at H
      have c12b0 : (a0_0 == 0) = false := beq_eq_false_iff_ne.mpr c12
      have c12b1 : (a0_0 != 0) = true := bne_iff_ne.mpr c12
      (first | rw [c12b0] | (simp only [i64_w, i32_w]; rw [c12b0]) | skip)
      have H' := Aside0.mk H; clear H
      go_wp2
      go_meet
      case rel => exact ⟨_, ((a0_0 == 5)), zu, H', ⟨by have := HJ1.out; first | omega | exact Nat.le_refl _⟩, zk BK510, ⟨zy HB⟩⟩
    case rest =>
     clear HC10
     obtain ⟨kq, x15_9, rfl, HA, HJ9, BK510, HB⟩ := hcut
     cases kq with
     | zero => exact absurd HA.out (by simp [spec_pzClue.j1])
     | succ kj9 =>
      have H := HA.out; clear HA; simp only [spec_pzClue.j1] at H
      by_cases c13 : x15_9 = true
      ·subst c13
       rw [if_pos rfl] at H
       obtain rfl := Option.some.inj H
       obtain ⟨_, _, _, _, _, _⟩ := zc3 BK510
       go_wp2
       go_ret
       exact ⟨zt, zy HB⟩
      ·replace c13 := Bool.eq_false_iff.mpr c13
       subst c13; rw [if_neg (show ¬ (false = true) by decide)] at H
       by_cases c15 : a0_0 = 1
       ·rw [if_pos c15] at H
        have c15b0 : (a0_0 == 1) = true := beq_iff_eq.mpr c15
        have c15b1 : (a0_0 != 1) = false := bne_eq_false_iff_eq.mpr c15
        clear c15
        by_cases c16 : a0_1 = 0
        ·rw [if_pos c16] at H
         have c16b0 : (a0_1 == 0) = true := beq_iff_eq.mpr c16
         have c16b1 : (a0_1 != 0) = false := bne_eq_false_iff_eq.mpr c16
         clear c16
         obtain rfl := Option.some.inj H
         obtain ⟨_, _, _, _, _, _⟩ := zc3 BK510
         go_wp2
         go_ret
         exact ⟨zt, zy HB⟩
        ·rw [if_neg c16] at H
         have c16b0 : (a0_1 == 0) = false := beq_eq_false_iff_ne.mpr c16
         have c16b1 : (a0_1 != 0) = true := bne_iff_ne.mpr c16
         obtain rfl := Option.some.inj H
         obtain ⟨_, _, _, _, _, _⟩ := zc3 BK510
         go_wp2
         go_ret
         exact ⟨zt, zy HB⟩
       ·rw [if_neg c15] at H
        have c15b0 : (a0_0 == 1) = false := beq_eq_false_iff_ne.mpr c15
        have c15b1 : (a0_0 != 1) = true := bne_iff_ne.mpr c15
        have HC19 := Aside0.mk H; clear H
        go_upto_if 31 with (fail)
        go_cut [31] (fun v31 wc => ∃ (kq : Nat) (x31_18 : Bool), v31 = .bool x31_18 ∧ Aside0 (spec_pzClue.j2 kq a0_0 x31_18 a0_0 a0_1 a0_2 = some r) ∧ Aside0 (kq ≤ kj9) ∧ Aside0 (wc.heap[gb510]? = some (.cells #[.int .i64 a0_0, .int .i64 a0_1, .int .i64 a0_2] 39 (0, 0))) ∧ Aside0 (Below w.heap.size w wc))
        case first =>
         have H := HC19.out; clear HC19
         by_cases c20 : a0_0 = 2
         ·rw [if_pos c20] at H
          have c20b0 : (a0_0 == 2) = true := beq_iff_eq.mpr c20
          have c20b1 : (a0_0 != 2) = false := bne_eq_false_iff_eq.mpr c20
          clear c20
          (first | rw [c20b0] | (simp only [i64_w, i32_w]; rw [c20b0]) | skip)
          have H' := Aside0.mk H; clear H
          go_wp2
          go_meet
          case rel => exact ⟨_, ((a0_0 == 2)), zu, H', ⟨by have := HJ1.out; have := HJ9.out; first | omega | exact Nat.le_refl _⟩, zk BK510, ⟨zy HB⟩⟩
         ·rw [if_neg c20] at H
          have c20b0 : (a0_0 == 2) = false := beq_eq_false_iff_ne.mpr c20
          have c20b1 : (a0_0 != 2) = true := bne_iff_ne.mpr c20
          (first | rw [c20b0] | (simp only [i64_w, i32_w]; rw [c20b0]) | skip)
          have H' := Aside0.mk H; clear H
          go_wp2
          go_meet
          case rel => exact ⟨_, ((a0_0 == 4)), zu, H', ⟨by have := HJ1.out; have := HJ9.out; first | omega | exact Nat.le_refl _⟩, zk BK510, ⟨zy HB⟩⟩
        case rest =>
         clear HC19
         obtain ⟨kq, x31_18, rfl, HA, HJ18, BK510, HB⟩ := hcut
         cases kq with
         | zero => exact absurd HA.out (by simp [spec_pzClue.j2])
         | succ kj18 =>
          have H := HA.out; clear HA; simp only [spec_pzClue.j2] at H
          by_cases c21 : x31_18 = true
          ·subst c21
           rw [if_pos rfl] at H
           obtain rfl := Option.some.inj H
           obtain ⟨_, _, _, _, _, _⟩ := zc3 BK510
           go_wp2
           go_ret
           exact ⟨zt, zy HB⟩
          ·replace c21 := Bool.eq_false_iff.mpr c21
           subst c21; rw [if_neg (show ¬ (false = true) by decide)] at H
           by_cases c23 : a0_0 = 3
           ·rw [if_pos c23] at H
            have c23b0 : (a0_0 == 3) = true := beq_iff_eq.mpr c23
            have c23b1 : (a0_0 != 3) = false := bne_eq_false_iff_eq.mpr c23
            clear c23
            by_cases c24 : a0_1 < 2
            ·rw [if_pos c24] at H
             have c24b0 : decide (a0_1 < 2) = true := decide_eq_true c24; clear c24
             obtain rfl := Option.some.inj H
             obtain ⟨_, _, _, _, _, _⟩ := zc3 BK510
             go_wp2
             go_ret
             exact ⟨zt, zy HB⟩
            ·rw [if_neg c24] at H
             have c24b0 : decide (a0_1 < 2) = false := decide_eq_false c24; clear c24
             obtain rfl := Option.some.inj H
             obtain ⟨_, _, _, _, _, _⟩ := zc3 BK510
             go_wp2
             go_ret
             exact ⟨zt, zy HB⟩
           ·rw [if_neg c23] at H
            have c23b0 : (a0_0 == 3) = false := beq_eq_false_iff_ne.mpr c23
            have c23b1 : (a0_0 != 3) = true := bne_iff_ne.mpr c23
            obtain rfl := Option.some.inj H
            go_wp2
            go_ret
            exact ⟨zt, zy HB⟩


/-! ### spec_pzGood: function 58 -/
mutual
def spec_pzGood.j0 : Nat → Bool → Int → List (S39) → Option (Bool)
 | 0, _, _, _ => none
 | k + 1, x14, x514000, x514001 => if x14 = true then (some false) else (spec_pzGood.l0 k x514001 (x514001.length : Int) 0)
def spec_pzGood.l0 : Nat → List (S39) → Int → Int → Option (Bool)
 | 0, _, _, _ => none
 | k + 1, x16, x17, x18 => if x18 < x17 then (if 0 ≤ x18 then (if x18 < (x16.length : Int) then ((spec_pzClue.f k ((rd_T39 x16 x18).f0) ((rd_T39 x16 x18).f1) ((rd_T39 x16 x18).f2)).bind fun t517 => (if t517 = true then (spec_pzGood.l0 k x16 x17 (wrap64 (x18 + 1))) else (some false))) else (none)) else (none)) else (some true)
end
def spec_pzGood.f (k : Nat) (a0_0 : Int) (l0_1 : List (S39)) : Option (Bool) := (spec_pzWide.f a0_0).bind fun t514 => (if t514 = true then (spec_pzGood.j0 k (decide ((l0_1.length : Int) > 6)) a0_0 l0_1) else (spec_pzGood.j0 k true a0_0 l0_1))
set_option maxHeartbeats 8000000 in
set_option maxRecDepth 100000 in
theorem spec_pzGood.calls (k : Nat) (a0_0 : Int) (A0_1 : Option Addr) (c0_1 : Nat) (l0_1 : List (S39)) (r : Bool) (w : World) (hr0_1 : Kd.C k39 w A0_1 l0_1.length l0_1) (hc0_1 : l0_1.length ≤ c0_1) (h : spec_pzGood.f k a0_0 l0_1 = some r) :
  Calls Try.prog 58 #[.agg #[.int .i64 a0_0, .slice A0_1 l0_1.length c0_1]] w fun e w' => e = .returned (.bool r) ∧ Below w.heap.size w w' := by
 have hu30 := Try.underlying30; have hu39 := Try.underlying39; have HR0_1 := Aside0.mk hr0_1; have HC0_1 := Aside0.mk hc0_1; clear hr0_1 hc0_1
 have HB := Aside0.mk (Below.refl w.heap.size w)
 have H : ((spec_pzWide.f a0_0).bind fun t514 => (if t514 = true then (spec_pzGood.j0 k (decide ((l0_1.length : Int) > 6)) a0_0 l0_1) else (spec_pzGood.j0 k true a0_0 l0_1))) = some r := h
 clear h; have HC2 := Aside0.mk H; clear H
 go_enter Try.func58, Try.ntmps58
 go_upto_region 1 with (first | ((with_reducible refine gate_dst (N := 1) rfl ?_); (try (refine gate_guard (by rfl) ?_; dsimp only)); refine zE 1 #[.int .i64 a0_0, .slice A0_1 l0_1.length c0_1] 30 ?_; intro gb513 hg w3 hbox hb; have BK513 := Aside0.mk (hbox); have GW513 := zg HB hg; have GE513 := GW513; replace HB := zh HB hb; clear hb hbox hg))
 (try simp only [Act.put, List.setIfInBounds_toArray, List.set_cons_zero, List.set_cons_succ])
 go_cut [14] (fun v14 wc => ∃ (kq : Nat) (x14_1 : Bool), v14 = .bool x14_1 ∧ Aside0 (spec_pzGood.j0 kq x14_1 a0_0 l0_1 = some r) ∧ Aside0 (kq ≤ k) ∧ Aside0 (wc.heap[gb513]? = some (.cells #[.int .i64 a0_0, (.slice A0_1 l0_1.length c0_1)] 30 (0, 0))) ∧ Aside0 (Below w.heap.size w wc))
 case first =>
  have H := HC2.out; clear HC2; replace H := Option.bind_eq_some_iff.mp H; obtain ⟨t514, A40, H⟩ := H
  replace H : (if t514 = true then (spec_pzGood.j0 k (decide ((l0_1.length : Int) > 6)) a0_0 l0_1) else (spec_pzGood.j0 k true a0_0 l0_1)) = some r := H
  have A4 := Aside0.mk A40; clear A40
  by_cases c5 : t514 = true
  ·subst c5
   rw [if_pos rfl] at H; have H' := Aside0.mk H; clear H
   obtain ⟨_, _, _, _⟩ := zc2 BK513
   go_wp2_with (first | ((with_reducible refine gate_callee (f := 66) rfl ?_); refine zG (some 7) Try.func66 #[.int .i64 a0_0] ?_; (with_reducible refine (spec_pzWide.calls a0_0 true _ A4.out).mono ?_); rintro e w' ⟨rfl, ⟨nd, rfl⟩⟩; refine ⟨_, rfl, ?_⟩))
   go_meet
   case rel => exact ⟨_, (decide ((l0_1.length : Int) > 6)), zu, H', ⟨by first | omega | exact Nat.le_refl _⟩, zk BK513, ⟨zy HB⟩⟩
  ·replace c5 := Bool.eq_false_iff.mpr c5
   subst c5; rw [if_neg (show ¬ (false = true) by decide)] at H; have H' := Aside0.mk H; clear H
   obtain ⟨_, _, _, _⟩ := zc2 BK513
   go_wp2_with (first | ((with_reducible refine gate_callee (f := 66) rfl ?_); refine zG (some 7) Try.func66 #[.int .i64 a0_0] ?_; (with_reducible refine (spec_pzWide.calls a0_0 false _ A4.out).mono ?_); rintro e w' ⟨rfl, ⟨nd, rfl⟩⟩; refine ⟨_, rfl, ?_⟩))
   go_meet
   case rel => exact ⟨_, (true), zu, H', ⟨by first | omega | exact Nat.le_refl _⟩, zk BK513, ⟨zy HB⟩⟩
 case rest =>
  clear HC2
  obtain ⟨kq, x14_1, rfl, HA, HJ1, BK513, HB⟩ := hcut
  cases kq with
  | zero => exact absurd HA.out (by simp [spec_pzGood.j0])
  | succ kj1 =>
   have H := HA.out; clear HA; simp only [spec_pzGood.j0] at H
   by_cases c8 : x14_1 = true
   ·subst c8
    rw [if_pos rfl] at H
    obtain rfl := Option.some.inj H
    go_wp2
    go_ret
    exact ⟨zt, zy HB⟩
   ·replace c8 := Bool.eq_false_iff.mpr c8
    subst c8; rw [if_neg (show ¬ (false = true) by decide)] at H; have H' := Aside0.mk H; clear H
    obtain ⟨_, _, _, _⟩ := zc2 BK513
    go_wp2
    go_loopg [18] kj1 (fun kq v18 w' => ∃ (x18_2 : Int), v18 = .int .i64 x18_2 ∧ Aside0 (spec_pzGood.l0 kq l0_1 (l0_1.length : Int) x18_2 = some r) ∧ Aside0 (kq ≤ kj1) ∧ Aside0 (w'.heap[gb513]? = some (.cells #[.int .i64 a0_0, (.slice A0_1 l0_1.length c0_1)] 30 (0, 0))) ∧ Aside0 (Below w.heap.size w w'))
    case atStart => exact ⟨(0), zu, H', ⟨Nat.le_refl _⟩, zk BK513, ⟨zy HB⟩⟩
    case round =>
     clear H'
     obtain ⟨x18_2, rfl, HA, HK2, BK513, HB⟩ := hrel
     cases gk with
     | zero => exact absurd HA.out (by simp [spec_pzGood.l0])
     | succ k2 =>
      have H := HA.out; clear HA; simp only [spec_pzGood.l0] at H
      by_cases c10 : x18_2 < (l0_1.length : Int)
      ·rw [if_pos c10] at H
       have c10b0 : decide (x18_2 < (l0_1.length : Int)) = true := decide_eq_true c10; clear c10
       by_cases c11 : 0 ≤ x18_2
       ·rw [if_pos c11] at H
        have c11b0 : decide (0 ≤ x18_2) = true := decide_eq_true c11; clear c11
        by_cases c12 : x18_2 < (l0_1.length : Int)
        ·rw [if_pos c12] at H
         have c12b0 : decide (x18_2 < (l0_1.length : Int)) = true := decide_eq_true c12; clear c12; replace H := Option.bind_eq_some_iff.mp H; obtain ⟨t517, A130, H⟩ := H
         replace H : (if t517 = true then (spec_pzGood.l0 k2 l0_1 (l0_1.length : Int) (wrap64 (x18_2 + 1))) else (some false)) = some r := H
         have A13 := Aside0.mk A130; clear A130
         by_cases c14 : t517 = true
         ·subst c14
          rw [if_pos rfl] at H; have H' := Aside0.mk H; clear H
          have p515 : 0 ≤ (x18_2 : Int) := of_decide_eq_true zO2_7
          have q515 : x18_2 < (l0_1.length : Int) := of_decide_eq_true zO2_7
          obtain ⟨ad515, e515, hx515_0, hx515_1, hx515_2⟩ := at_T39 HR0_1.out x18_2 p515 q515
          cases e515
          replace hx515_0 := (HB.out.cell (World.block_lt_of_cell? w _ hx515_0)).trans hx515_0
          replace hx515_1 := (HB.out.cell (World.block_lt_of_cell? w _ hx515_1)).trans hx515_1
          replace hx515_2 := (HB.out.cell (World.block_lt_of_cell? w _ hx515_2)).trans hx515_2
          replace p515 := eq_true p515; replace q515 := eq_true q515
          go_wp2_with (first | ((with_reducible refine gate_dst (N := 4) rfl ?_); (try (refine gate_guard (by rfl) ?_; dsimp only)); refine zE 4 #[.int .i64 0, .int .i64 0, .int .i64 0] 39 ?_; intro gb516 hg w15 hbox hb; have BK516 := Aside0.mk (hbox); have GW516 := zg HB hg; have GE516 := GW516; have NB513_516 := zl BK513 hg; have NB516_513 := zr BK513 hg; replace BK513 := zb BK513 hb; replace HB := zh HB hb; clear hb hbox hg; have hnb16 := NB516_513.out; have hnc16 := NB513_516.out; obtain ⟨_, _, _, _, _, _⟩ := zc3 BK516) | ((with_reducible refine gate_callee (f := 64) rfl ?_); refine zG (some 23) Try.func64 #[.agg #[.int .i64 ((rd_T39 l0_1 x18_2).f0), .int .i64 ((rd_T39 l0_1 x18_2).f1), .int .i64 ((rd_T39 l0_1 x18_2).f2)]] ?_; (with_reducible refine (spec_pzClue.calls k2 ((rd_T39 l0_1 x18_2).f0) ((rd_T39 l0_1 x18_2).f1) ((rd_T39 l0_1 x18_2).f2) true _ A13.out).mono ?_); rintro e w18 ⟨rfl, hb⟩; refine ⟨_, rfl, ?_⟩; have n1_ := Aside0.mk (blk_below (g := gb516) (o := .cells #[.int .i64 ((rd_T39 l0_1 x18_2).f0), .int .i64 ((rd_T39 l0_1 x18_2).f1), .int .i64 ((rd_T39 l0_1 x18_2).f2)] 39 (0, 0)) (zw BK516) hb); replace BK513 := zb BK513 hb; replace HB := zh HB hb; clear BK516; have BK516 := n1_; clear n1_; clear hb))
          go_roundg k2
          case measure => have := HJ1.out; have := HK2.out; omega
          case rel => exact ⟨(wrap64 (x18_2 + 1)), zu, H', ⟨by have := HJ1.out; have := HK2.out; omega⟩, zk BK513, ⟨zy HB⟩⟩
         ·replace c14 := Bool.eq_false_iff.mpr c14
          subst c14; rw [if_neg (show ¬ (false = true) by decide)] at H
          obtain rfl := Option.some.inj H
          have p515 : 0 ≤ (x18_2 : Int) := of_decide_eq_true zO2_7
          have q515 : x18_2 < (l0_1.length : Int) := of_decide_eq_true zO2_7
          obtain ⟨ad515, e515, hx515_0, hx515_1, hx515_2⟩ := at_T39 HR0_1.out x18_2 p515 q515
          cases e515
          replace hx515_0 := (HB.out.cell (World.block_lt_of_cell? w _ hx515_0)).trans hx515_0
          replace hx515_1 := (HB.out.cell (World.block_lt_of_cell? w _ hx515_1)).trans hx515_1
          replace hx515_2 := (HB.out.cell (World.block_lt_of_cell? w _ hx515_2)).trans hx515_2
          replace p515 := eq_true p515; replace q515 := eq_true q515
          go_wp2_with (first | ((with_reducible refine gate_dst (N := 4) rfl ?_); (try (refine gate_guard (by rfl) ?_; dsimp only)); refine zE 4 #[.int .i64 0, .int .i64 0, .int .i64 0] 39 ?_; intro gb516 hg w19 hbox hb; have BK516 := Aside0.mk (hbox); have GW516 := zg HB hg; have GE516 := GW516; have NB513_516 := zl BK513 hg; have NB516_513 := zr BK513 hg; replace BK513 := zb BK513 hb; replace HB := zh HB hb; clear hb hbox hg; have hnb20 := NB516_513.out; have hnc20 := NB513_516.out; obtain ⟨_, _, _, _, _, _⟩ := zc3 BK516) | ((with_reducible refine gate_callee (f := 64) rfl ?_); refine zG (some 23) Try.func64 #[.agg #[.int .i64 ((rd_T39 l0_1 x18_2).f0), .int .i64 ((rd_T39 l0_1 x18_2).f1), .int .i64 ((rd_T39 l0_1 x18_2).f2)]] ?_; (with_reducible refine (spec_pzClue.calls k2 ((rd_T39 l0_1 x18_2).f0) ((rd_T39 l0_1 x18_2).f1) ((rd_T39 l0_1 x18_2).f2) false _ A13.out).mono ?_); rintro e w22 ⟨rfl, hb⟩; refine ⟨_, rfl, ?_⟩; have n1_ := Aside0.mk (blk_below (g := gb516) (o := .cells #[.int .i64 ((rd_T39 l0_1 x18_2).f0), .int .i64 ((rd_T39 l0_1 x18_2).f1), .int .i64 ((rd_T39 l0_1 x18_2).f2)] 39 (0, 0)) (zw BK516) hb); replace BK513 := zb BK513 hb; replace HB := zh HB hb; clear BK516; have BK516 := n1_; clear n1_; clear hb))
          go_ret
          exact ⟨zt, zy HB⟩
        ·rw [if_neg c12] at H
         exact absurd H zO2_9
       ·rw [if_neg c11] at H
        exact absurd H zO2_9
      ·rw [if_neg c10] at H
       have c10b0 : decide (x18_2 < (l0_1.length : Int)) = false := decide_eq_false c10; clear c10
       obtain rfl := Option.some.inj H
       go_wp2
       go_ret
       exact ⟨zt, zy HB⟩


/-! ### spec_pzFits: function 65 -/
def spec_pzFits.f (k : Nat) (a0_0 : Int) (a0_1 : Int) (a0_2 : Int) (a1_0 : Int) (a1_1 : Int) (a1_2 : Int) : Option (Bool) := (spec_pzValue.f k a0_0 a0_1 a1_0 a1_1 a1_2).bind fun bt520 => (if bt520.1 = a0_1 then (some (bt520.2 == a0_2)) else (some false))
set_option maxHeartbeats 8000000 in
set_option maxRecDepth 100000 in
theorem spec_pzFits.calls (k : Nat) (a0_0 : Int) (a0_1 : Int) (a0_2 : Int) (a1_0 : Int) (a1_1 : Int) (a1_2 : Int) (r : Bool) (w : World) (h : spec_pzFits.f k a0_0 a0_1 a0_2 a1_0 a1_1 a1_2 = some r) :
  Calls Try.prog 65 #[.agg #[.int .i64 a0_0, .int .i64 a0_1, .int .i64 a0_2], .agg #[.int .i64 a1_0, .int .i64 a1_1, .int .i64 a1_2]] w fun e w' => e = .returned (.bool r) ∧ Below w.heap.size w w' := by
 have hu39 := Try.underlying39; have hu25 := Try.underlying25
 have HB := Aside0.mk (Below.refl w.heap.size w)
 have H : ((spec_pzValue.f k a0_0 a0_1 a1_0 a1_1 a1_2).bind fun bt520 => (if bt520.1 = a0_1 then (some (bt520.2 == a0_2)) else (some false))) = some r := h
 clear h; replace H := Option.bind_eq_some_iff.mp H; obtain ⟨⟨t520, t521⟩, A30, H⟩ := H
 replace H : (if t520 = a0_1 then (some (t521 == a0_2)) else (some false)) = some r := H
 have A3 := Aside0.mk A30; clear A30
 by_cases c4 : t520 = a0_1
 ·rw [if_pos c4] at H
  have c4b0 : (t520 == a0_1) = true := beq_iff_eq.mpr c4
  have c4b1 : (t520 != a0_1) = false := bne_eq_false_iff_eq.mpr c4
  clear c4
  obtain rfl := Option.some.inj H
  go_enter Try.func65, Try.ntmps65
  go_wp2_with (first | ((with_reducible refine gate_dst (N := 2) rfl ?_); refine zE 2 #[.int .i64 a0_0, .int .i64 a0_1, .int .i64 a0_2] 39 ?_; intro gb518 hg w5 hbox hb; have BK518 := Aside0.mk (hbox); have GW518 := zg HB hg; have GE518 := GW518; replace HB := zh HB hb; clear hb hbox hg) | ((with_reducible refine gate_dst (N := 3) rfl ?_); refine zE 3 #[.int .i64 a1_0, .int .i64 a1_1, .int .i64 a1_2] 25 ?_; intro gb519 hg w6 hbox hb; have BK519 := Aside0.mk (hbox); have GW519 := zg HB hg; have GE519 := GW519; have NB518_519 := zl BK518 hg; have NB519_518 := zr BK518 hg; replace BK518 := zb BK518 hb; replace HB := zh HB hb; clear hb hbox hg; have hnb7 := NB518_519.out; have hnc7 := NB519_518.out; obtain ⟨_, _, _, _, _, _⟩ := zc3 BK518; obtain ⟨_, _, _, _, _, _⟩ := zc3 BK519) | ((with_reducible refine gate_callee (f := 71) rfl ?_); refine zG (some 13) Try.func71 #[.int .i64 a0_0, .int .i64 a0_1, .agg #[.int .i64 a1_0, .int .i64 a1_1, .int .i64 a1_2]] ?_; (with_reducible refine (spec_pzValue.calls k a0_0 a0_1 a1_0 a1_1 a1_2 t520 t521 _ A3.out).mono ?_); rintro e w10 ⟨rfl, hb⟩; refine ⟨_, rfl, ?_⟩; replace BK518 := zb BK518 hb; replace BK519 := zb BK519 hb; replace HB := zh HB hb; clear hb; obtain ⟨_, _, _, _, _, _⟩ := zc3 BK518))
  go_ret
  exact ⟨zt, zy HB⟩
 ·rw [if_neg c4] at H
  have c4b0 : (t520 == a0_1) = false := beq_eq_false_iff_ne.mpr c4
  have c4b1 : (t520 != a0_1) = true := bne_iff_ne.mpr c4
  obtain rfl := Option.some.inj H
  go_enter Try.func65, Try.ntmps65
  go_wp2_with (first | ((with_reducible refine gate_dst (N := 2) rfl ?_); refine zE 2 #[.int .i64 a0_0, .int .i64 a0_1, .int .i64 a0_2] 39 ?_; intro gb518 hg w12 hbox hb; have BK518 := Aside0.mk (hbox); have GW518 := zg HB hg; have GE518 := GW518; replace HB := zh HB hb; clear hb hbox hg) | ((with_reducible refine gate_dst (N := 3) rfl ?_); refine zE 3 #[.int .i64 a1_0, .int .i64 a1_1, .int .i64 a1_2] 25 ?_; intro gb519 hg w13 hbox hb; have BK519 := Aside0.mk (hbox); have GW519 := zg HB hg; have GE519 := GW519; have NB518_519 := zl BK518 hg; have NB519_518 := zr BK518 hg; replace BK518 := zb BK518 hb; replace HB := zh HB hb; clear hb hbox hg; have hnb14 := NB518_519.out; have hnc14 := NB519_518.out; obtain ⟨_, _, _, _, _, _⟩ := zc3 BK518; obtain ⟨_, _, _, _, _, _⟩ := zc3 BK519) | ((with_reducible refine gate_callee (f := 71) rfl ?_); refine zG (some 13) Try.func71 #[.int .i64 a0_0, .int .i64 a0_1, .agg #[.int .i64 a1_0, .int .i64 a1_1, .int .i64 a1_2]] ?_; (with_reducible refine (spec_pzValue.calls k a0_0 a0_1 a1_0 a1_1 a1_2 t520 t521 _ A3.out).mono ?_); rintro e w17 ⟨rfl, hb⟩; refine ⟨_, rfl, ?_⟩; replace BK518 := zb BK518 hb; replace BK519 := zb BK519 hb; replace HB := zh HB hb; clear hb; obtain ⟨_, _, _, _, _, _⟩ := zc3 BK518))
  go_ret
  exact ⟨zt, zy HB⟩


/-! ### spec_pzAll: function 77 -/
mutual
def spec_pzAll.l0 : Nat → Int → List (S39) → List (S25) → Int → Option ((List (S25)))
 | 0, _, _, _, _ => none
 | k + 1, x0, x1, x5, x6 => if x6 ≤ 12 then (spec_pzAll.l1 k x0 x1 x5 x6 1) else (some x5)
def spec_pzAll.l1 : Nat → Int → List (S39) → List (S25) → Int → Int → Option ((List (S25)))
 | 0, _, _, _, _, _ => none
 | k + 1, x0, x1, x5, x6, x7 => if x7 ≤ 12 then (spec_pzAll.l2 k x0 x1 x5 x6 x7 true x1 (x1.length : Int) 0 x0 x6 x7) else (spec_pzAll.l0 k x0 x1 x5 (wrap64 (x6 + 1)))
def spec_pzAll.l2 : Nat → Int → List (S39) → List (S25) → Int → Int → Bool → List (S39) → Int → Int → Int → Int → Int → Option ((List (S25)))
 | 0, _, _, _, _, _, _, _, _, _, _, _, _ => none
 | k + 1, x0, x1, x5, x6, x7, x9, x24, x25, x26, x523000, x523001, x523002 => if x26 < x25 then (if 0 ≤ x26 then (if x26 < (x24.length : Int) then (if x9 = true then ((spec_pzFits.f k ((rd_T39 x24 x26).f0) ((rd_T39 x24 x26).f1) ((rd_T39 x24 x26).f2) x523000 x523001 x523002).bind fun t525 => (spec_pzAll.l2 k x0 x1 x5 x6 x7 t525 x24 x25 (wrap64 (x26 + 1)) x523000 x523001 x523002)) else (spec_pzAll.l2 k x0 x1 x5 x6 x7 false x24 x25 (wrap64 (x26 + 1)) x523000 x523001 x523002)) else (none)) else (none)) else (if x9 = true then (if x5.length < 5864062014805 then (spec_pzAll.l1 k x0 x1 (x5 ++ [(⟨x523000, x523001, x523002⟩ : S25)]) x6 (wrap64 (x7 + 1))) else (none)) else (spec_pzAll.l1 k x0 x1 x5 x6 (wrap64 (x7 + 1))))
end
def spec_pzAll.f (k : Nat) (a0 : Int) (l1 : List (S39)) : Option ((List (S25))) := spec_pzAll.l0 k a0 l1 ([] : List (S25)) 1
set_option maxHeartbeats 8000000 in
set_option maxRecDepth 100000 in
theorem spec_pzAll.calls (k : Nat) (a0 : Int) (A1 : Option Addr) (c1 : Nat) (l1 : List (S39)) (r : List (S25)) (w : World) (hr1 : Kd.C k39 w A1 l1.length l1) (hc1 : l1.length ≤ c1) (h : spec_pzAll.f k a0 l1 = some r) :
  Calls Try.prog 77 #[.int .i64 a0, .slice A1 l1.length c1] w fun e w' => ∃ v0_ : Value, e = .returned (v0_) ∧ Kd.R k25 25 w' w.heap.size (fun _ => True) v0_ r ∧ Below w.heap.size w w' := by
 have hu25 := Try.underlying25; have hu39 := Try.underlying39; have HR1 := Aside0.mk hr1; have HC1 := Aside0.mk hc1; clear hr1 hc1
 have HB := Aside0.mk (Below.refl w.heap.size w)
 have H : (spec_pzAll.l0 k a0 l1 ([] : List (S25)) 1) = some r := h
 clear h; have H' := Aside0.mk H; clear H
 go_enter Try.func77, Try.ntmps77
 go_wp2
 go_loopg [5, 6] k (fun kq v5 v6 w' => ∃ (x5_1 : List (S25)) (x6_1 : Int), v6 = .int .i64 x6_1 ∧ Aside0 (spec_pzAll.l0 kq a0 l1 x5_1 x6_1 = some r) ∧ Aside0 (kq ≤ k) ∧ Aside0 (Kd.R k25 25 w' w.heap.size (fun _ => True) v5 x5_1) ∧ Aside0 (Below w.heap.size w w'))
 case atStart => exact ⟨(([] : List (S25))), (1), zu, H', ⟨Nat.le_refl _⟩, ⟨by first | exact Kd.R_nil _ _ _ _ _ | exact Kd.N_nil _ _ _ _ _ | exact Kd.V_nil _ _ _ _ _ | exact Kd.Q_nil _ _ _ _ _ | exact Kd.S_nil _ _ _ _ _⟩, ⟨zy HB⟩⟩
 case round =>
  clear H'
  obtain ⟨x5_1, x6_1, rfl, HA, HK1, HO_5, HB⟩ := hrel
  cases gk with
  | zero => exact absurd HA.out (by simp [spec_pzAll.l0])
  | succ k1 =>
   have H := HA.out; clear HA; simp only [spec_pzAll.l0] at H
   by_cases c3 : x6_1 ≤ 12
   ·rw [if_pos c3] at H
    have c3b0 : decide (x6_1 ≤ 12) = true := decide_eq_true c3; clear c3; have H' := Aside0.mk H; clear H
    go_wp2
    go_loopg [5, 7] k1 (fun kq v5 v7 w' => ∃ (x5_2 : List (S25)) (x7_2 : Int), v7 = .int .i64 x7_2 ∧ Aside0 (spec_pzAll.l1 kq a0 l1 x5_2 x6_1 x7_2 = some r) ∧ Aside0 (kq ≤ k1) ∧ Aside0 (Kd.R k25 25 w' w.heap.size (fun _ => True) v5 x5_2) ∧ Aside0 (Below w.heap.size w w'))
    case atStart => exact ⟨(x5_1), (1), zu, H', ⟨Nat.le_refl _⟩, zp HO_5, ⟨zy HB⟩⟩
    case round =>
     clear H'
     obtain ⟨x5_2, x7_2, rfl, HA, HK2, HO_5, HB⟩ := hrel
     cases gk with
     | zero => exact absurd HA.out (by simp [spec_pzAll.l1])
     | succ k2 =>
      have H := HA.out; clear HA; simp only [spec_pzAll.l1] at H
      by_cases c4 : x7_2 ≤ 12
      ·rw [if_pos c4] at H
       have c4b0 : decide (x7_2 ≤ 12) = true := decide_eq_true c4; clear c4; have H' := Aside0.mk H; clear H
       go_wp2_with (first | ((with_reducible refine gate_dst (N := 8) rfl ?_); refine zE 8 #[.int .i64 0, .int .i64 0, .int .i64 0] 25 ?_; intro gb522 hg w5 hbox hb; have n0_ := Aside0.mk (Kd.R_below (Kd.R_elderB (zs HO_5) gb522 (Nat.le_of_eq hg.symm)) hb); have BK522 := Aside0.mk (hbox); have GW522 := zg HB hg; have GE522 := GW522; replace HB := zh HB hb; clear HO_5; have HO_5 := n0_; clear n0_; clear hb hbox hg; obtain ⟨_, _, _, _, _, _⟩ := zc3 BK522))
       go_loopg [9, 26] k2 (fun kq v9 v26 w' => ∃ (x9_3 : Bool) (x26_3 : Int), v9 = .bool x9_3 ∧ v26 = .int .i64 x26_3 ∧ Aside0 (spec_pzAll.l2 kq a0 l1 x5_2 x6_1 x7_2 x9_3 l1 (l1.length : Int) x26_3 a0 x6_1 x7_2 = some r) ∧ Aside0 (kq ≤ k2) ∧ Aside0 (Kd.R k25 25 w' w.heap.size (fun k_ => k_ ≠ gb522) u5 x5_2) ∧ Aside0 (w'.heap[gb522]? = some (.cells #[.int .i64 a0, .int .i64 x6_1, .int .i64 x7_2] 25 (0, 0))) ∧ Aside0 (Below w.heap.size w w'))
       case atStart => exact ⟨(true), (0), zu, zu, H', ⟨Nat.le_refl _⟩, ⟨by (with_reducible repeat (first | apply Kd.R_alloc | apply Kd.R_drewN | apply Kd.R_drew)); exact Kd.R_mono (Kd.R_far (p := ⟨gb522, 2, none⟩) (Kd.R_far (p := ⟨gb522, 1, none⟩) (Kd.R_far (p := ⟨gb522, 0, none⟩) (Kd.R_mono HO_5.out (fun k_ hk => (⟨hk, hk.2⟩ : _ ∧ k_ ≠ gb522))) (fun _ hk => hk.2) (.int .i64 a0)) (fun _ hk => hk.2) (.int .i64 x6_1)) (fun _ hk => hk.2) (.int .i64 x7_2)) (fun _ hk => hk.1.2)⟩, ⟨zw BK522⟩, ⟨zy HB⟩⟩
       case round =>
        clear H'
        obtain ⟨x9_3, x26_3, rfl, rfl, HA, HK3, HO_5, BK522, HB⟩ := hrel
        cases gk with
        | zero => exact absurd HA.out (by simp [spec_pzAll.l2])
        | succ k3 =>
         have H := HA.out; clear HA; simp only [spec_pzAll.l2] at H
         by_cases c7 : x26_3 < (l1.length : Int)
         ·rw [if_pos c7] at H
          have c7b0 : decide (x26_3 < (l1.length : Int)) = true := decide_eq_true c7; clear c7
          by_cases c8 : 0 ≤ x26_3
          ·rw [if_pos c8] at H
           have c8b0 : decide (0 ≤ x26_3) = true := decide_eq_true c8; clear c8
           by_cases c9 : x26_3 < (l1.length : Int)
           ·rw [if_pos c9] at H
            have c9b0 : decide (x26_3 < (l1.length : Int)) = true := decide_eq_true c9; clear c9
            by_cases c10 : x9_3 = true
            ·subst c10
             rw [if_pos rfl] at H; replace H := Option.bind_eq_some_iff.mp H; obtain ⟨t525, A110, H⟩ := H
             replace H : (spec_pzAll.l2 k3 a0 l1 x5_2 x6_1 x7_2 t525 l1 (l1.length : Int) (wrap64 (x26_3 + 1)) a0 x6_1 x7_2) = some r := H
             have A11 := Aside0.mk A110; clear A110; have H' := Aside0.mk H; clear H
             have p523 : 0 ≤ (x26_3 : Int) := of_decide_eq_true zO2_7
             have q523 : x26_3 < (l1.length : Int) := of_decide_eq_true zO2_7
             obtain ⟨ad523, e523, hx523_0, hx523_1, hx523_2⟩ := at_T39 HR1.out x26_3 p523 q523
             cases e523
             replace hx523_0 := (HB.out.cell (World.block_lt_of_cell? w _ hx523_0)).trans hx523_0
             replace hx523_1 := (HB.out.cell (World.block_lt_of_cell? w _ hx523_1)).trans hx523_1
             replace hx523_2 := (HB.out.cell (World.block_lt_of_cell? w _ hx523_2)).trans hx523_2
             replace p523 := eq_true p523; replace q523 := eq_true q523
             go_wp2_with (first | ((with_reducible refine gate_dst (N := 11) rfl ?_); refine zE 11 #[.int .i64 0, .int .i64 0, .int .i64 0] 39 ?_; intro gb524 hg w12 hbox hb; have BK524 := Aside0.mk (hbox); have GW524 := zg HB hg; have GE524 := GW524; have NB522_524 := zl BK522 hg; have NB524_522 := zr BK522 hg; replace HO_5 := zo HO_5 hb; replace BK522 := zb BK522 hb; replace HB := zh HB hb; clear hb hbox hg; have hnb13 := NB524_522.out; have hnc13 := NB522_524.out; obtain ⟨_, _, _, _, _, _⟩ := zc3 BK524; obtain ⟨_, _, _, _, _, _⟩ := zc3 BK522) | (go_at_call 65; (with_reducible refine (spec_pzFits.calls k3 ((rd_T39 l1 x26_3).f0) ((rd_T39 l1 x26_3).f1) ((rd_T39 l1 x26_3).f2) a0 x6_1 x7_2 t525 _ A11.out).mono ?_); rintro e w16 ⟨rfl, hb⟩; have n0_ := Aside0.mk (Kd.R_below (by (with_reducible repeat (first | apply Kd.R_alloc | apply Kd.R_drewN | apply Kd.R_drew)); exact (Kd.R_mono (Kd.R_far (p := ⟨gb524, 2, none⟩) (Kd.R_far (p := ⟨gb524, 1, none⟩) (Kd.R_far (p := ⟨gb524, 0, none⟩) (Kd.R_types HO_5.out BK524.out (by decide)) (fun _ hk => hk.2) (.int .i64 ((rd_T39 l1 x26_3).f0))) (fun _ hk => hk.2) (.int .i64 ((rd_T39 l1 x26_3).f1))) (fun _ hk => hk.2) (.int .i64 ((rd_T39 l1 x26_3).f2))) (fun _ h_ => h_.1))) hb); have n2_ := Aside0.mk (blk_below (g := gb524) (o := .cells #[.int .i64 ((rd_T39 l1 x26_3).f0), .int .i64 ((rd_T39 l1 x26_3).f1), .int .i64 ((rd_T39 l1 x26_3).f2)] 39 (0, 0)) (zw BK524) hb); replace BK522 := zb BK522 hb; replace HB := zh HB hb; clear HO_5; have HO_5 := n0_; clear n0_; clear BK524; have BK524 := n2_; clear n2_; clear hb))
             go_roundg k3
             case measure => have := HK1.out; have := HK2.out; have := HK3.out; omega
             case rel => exact ⟨(t525), (wrap64 (x26_3 + 1)), zu, zu, H', ⟨by have := HK1.out; have := HK2.out; have := HK3.out; omega⟩, zp HO_5, zk BK522, ⟨zy HB⟩⟩
            ·replace c10 := Bool.eq_false_iff.mpr c10
             subst c10; rw [if_neg (show ¬ (false = true) by decide)] at H; have H' := Aside0.mk H; clear H
             have p523 : 0 ≤ (x26_3 : Int) := of_decide_eq_true zO2_7
             have q523 : x26_3 < (l1.length : Int) := of_decide_eq_true zO2_7
             obtain ⟨ad523, e523, hx523_0, hx523_1, hx523_2⟩ := at_T39 HR1.out x26_3 p523 q523
             cases e523
             replace hx523_0 := (HB.out.cell (World.block_lt_of_cell? w _ hx523_0)).trans hx523_0
             replace hx523_1 := (HB.out.cell (World.block_lt_of_cell? w _ hx523_1)).trans hx523_1
             replace hx523_2 := (HB.out.cell (World.block_lt_of_cell? w _ hx523_2)).trans hx523_2
             replace p523 := eq_true p523; replace q523 := eq_true q523
             go_wp2_with (first | ((with_reducible refine gate_dst (N := 11) rfl ?_); refine zE 11 #[.int .i64 0, .int .i64 0, .int .i64 0] 39 ?_; intro gb524 hg w17 hbox hb; have BK524 := Aside0.mk (hbox); have GW524 := zg HB hg; have GE524 := GW524; have NB522_524 := zl BK522 hg; have NB524_522 := zr BK522 hg; replace HO_5 := zo HO_5 hb; replace BK522 := zb BK522 hb; replace HB := zh HB hb; clear hb hbox hg; have hnb18 := NB524_522.out; have hnc18 := NB522_524.out; obtain ⟨_, _, _, _, _, _⟩ := zc3 BK524))
             go_roundg k3
             case measure => have := HK1.out; have := HK2.out; have := HK3.out; omega
             case rel => exact ⟨(false), (wrap64 (x26_3 + 1)), zu, zu, H', ⟨by have := HK1.out; have := HK2.out; have := HK3.out; omega⟩, ⟨by (with_reducible repeat (first | apply Kd.R_alloc | apply Kd.R_drewN | apply Kd.R_drew)); exact Kd.R_mono (Kd.R_far (p := ⟨gb524, 2, none⟩) (Kd.R_far (p := ⟨gb524, 1, none⟩) (Kd.R_far (p := ⟨gb524, 0, none⟩) (Kd.R_types HO_5.out BK524.out (by decide)) (fun _ hk => hk.2) (.int .i64 ((rd_T39 l1 x26_3).f0))) (fun _ hk => hk.2) (.int .i64 ((rd_T39 l1 x26_3).f1))) (fun _ hk => hk.2) (.int .i64 ((rd_T39 l1 x26_3).f2))) (fun _ hk => hk.1)⟩, zk BK522, ⟨zy HB⟩⟩
           ·rw [if_neg c9] at H
            exact absurd H zO2_9
          ·rw [if_neg c8] at H
           exact absurd H zO2_9
         ·rw [if_neg c7] at H
          have c7b0 : decide (x26_3 < (l1.length : Int)) = false := decide_eq_false c7; clear c7
          by_cases c20 : x9_3 = true
          ·subst c20
           rw [if_pos rfl] at H
           by_cases c21 : x5_2.length < 5864062014805
           ·rw [if_pos c21] at H
            have LMc21 := Aside0.mk c21; clear c21
            obtain ⟨y526, hy526⟩ : ∃ y_ : List (S25), y_ = (x5_2 ++ [(⟨a0, x6_1, x7_2⟩ : S25)]) := ⟨_, rfl⟩
            replace H : (spec_pzAll.l1 k3 a0 l1 y526 x6_1 (wrap64 (x7_2 + 1))) = some r := by first | (rw [hy526]; with_reducible exact H) | (have H2_ := (Option.bind_some _ _).symm.trans H; rw [hy526]; with_reducible exact H2_) | (have H2_ := (Option.bind_some _ _).symm.trans H; with_reducible exact H2_) | with_reducible exact H | (rw [hy526]; exact H) | exact H
            have Ny526 := Aside0.mk hy526; clear hy526; have H' := Aside0.mk H; clear H
            obtain ⟨_, _, _, _, _, _⟩ := zc3 BK522
            go_wp2_with (first | ((with_reducible refine gate_builtin (b := .append) (xs := #[.tmp 38, .tmp 40]) rfl ?_); at_builtin; refine Kd.R_append k25 (w0 := w) w.heap.size rfl (.tmp 38) (.tmp 40) 44 25 (.agg #[(.int .i64 0), (.int .i64 0), (.int .i64 0)]) 24 rfl Try.underlying44 info25 rfl (by decide) zO2_8 u5 x5_2 (⟨a0, x6_1, x7_2⟩ : S25) [.int .i64 a0, .int .i64 x6_1, .int .i64 x7_2] (fun k_ => k_ ≠ gb522) (fun _ => False) rfl rfl ?aP (fun _ hk => hk.elim) ?aF ?aO ?aB ?aS ?aL ?_; (case aP => exact k25_mkM _ _ _ (⟨a0, x6_1, x7_2⟩ : S25)); (case aB => exact (zy HB)); (case aF => exact (fun k_ hk => Kd.freshB (zq BK522) k_ hk)); (case aO => exact (zs HO_5)); (case aS => exact (below_size (zy HB))); (case aL => have := LMc21.out; omega); intro v527 w23 ho hb hg hat; rw [← Ny526.out] at ho; have n0_ := Aside0.mk (blk_grown (zq BK522) hg (Kd.R_away HO_5.out (fun _ hk => hk))); have HO528 := Aside0.mk (ho); replace HB := Aside0.mk hb; clear HO_5; clear BK522; have BK522 := n0_; clear n0_; clear ho hb hg hat))
            go_roundg k3
            case measure => have := HK1.out; have := HK2.out; have := HK3.out; omega
            case rel => exact ⟨(y526), (wrap64 (x7_2 + 1)), zu, H', ⟨by have := HK1.out; have := HK2.out; have := HK3.out; omega⟩, ⟨by (with_reducible repeat (first | apply Kd.R_alloc | apply Kd.R_drewN | apply Kd.R_drew)); exact Kd.R_mono HO528.out (fun _ hk => trivial)⟩, ⟨zy HB⟩⟩
           ·rw [if_neg c21] at H
            exact absurd H zO2_9
          ·replace c20 := Bool.eq_false_iff.mpr c20
           subst c20; rw [if_neg (show ¬ (false = true) by decide)] at H; have H' := Aside0.mk H; clear H
           go_wp2
           go_roundg k3
           case measure => have := HK1.out; have := HK2.out; have := HK3.out; omega
           case rel => exact ⟨(x5_2), (wrap64 (x7_2 + 1)), zu, H', ⟨by have := HK1.out; have := HK2.out; have := HK3.out; omega⟩, ⟨by (with_reducible repeat (first | apply Kd.R_alloc | apply Kd.R_drewN | apply Kd.R_drew)); exact Kd.R_mono HO_5.out (fun _ hk => trivial)⟩, ⟨zy HB⟩⟩
      ·rw [if_neg c4] at H
       have c4b0 : decide (x7_2 ≤ 12) = false := decide_eq_false c4; clear c4; have H' := Aside0.mk H; clear H
       go_wp2
       go_roundg k2
       case measure => have := HK1.out; have := HK2.out; omega
       case rel => exact ⟨(x5_2), (wrap64 (x6_1 + 1)), zu, H', ⟨by have := HK1.out; have := HK2.out; omega⟩, zp HO_5, ⟨zy HB⟩⟩
   ·rw [if_neg c3] at H
    have c3b0 : decide (x6_1 ≤ 12) = false := decide_eq_false c3; clear c3
    obtain rfl := Option.some.inj H
    go_wp2
    go_ret
    exact ⟨_, zt, by (with_reducible repeat (first | apply Kd.R_alloc | apply Kd.R_drewN | apply Kd.R_drew)); exact HO_5.out, zy HB⟩


/-! ### spec_pzSolved: function 59 -/
def spec_pzSolved.f (k : Nat) (a0 : Int) (l1 : List (S39)) : Option (Bool) := (spec_pzAll.f k a0 l1).bind fun t529 => (some ((t529.length : Int) == 1))
set_option maxHeartbeats 8000000 in
set_option maxRecDepth 100000 in
theorem spec_pzSolved.calls (k : Nat) (a0 : Int) (A1 : Option Addr) (c1 : Nat) (l1 : List (S39)) (r : Bool) (w : World) (hr1 : Kd.C k39 w A1 l1.length l1) (hc1 : l1.length ≤ c1) (h : spec_pzSolved.f k a0 l1 = some r) :
  Calls Try.prog 59 #[.int .i64 a0, .slice A1 l1.length c1] w fun e w' => e = .returned (.bool r) ∧ Below w.heap.size w w' := by
 have HR1 := Aside0.mk hr1; have HC1 := Aside0.mk hc1; clear hr1 hc1
 have HB := Aside0.mk (Below.refl w.heap.size w)
 have H : ((spec_pzAll.f k a0 l1).bind fun t529 => (some ((t529.length : Int) == 1))) = some r := h
 clear h; replace H := Option.bind_eq_some_iff.mp H; obtain ⟨t529, A30, H⟩ := H
 replace H : (some ((t529.length : Int) == 1)) = some r := H
 have A3 := Aside0.mk A30; clear A30
 obtain rfl := Option.some.inj H
 go_enter Try.func59, Try.ntmps59
 go_wp2_with (first | ((with_reducible refine gate_callee (f := 77) rfl ?_); refine zG (some 7) Try.func77 #[.int .i64 a0, .slice A1 l1.length c1] ?_; (with_reducible refine (spec_pzAll.calls k a0 _ _ l1 t529 _ ?side1 ?side2 A3.out).mono ?_); (case side1 => repeat (first | exact HR1.out | (with_reducible refine Kd.C_alloc ?_ _) | (with_reducible refine Kd.C_drewN ?_ _) | (with_reducible refine Kd.C_drew ?_))); (case side2 => exact HC1.out); rintro e w4 ⟨v530, rfl, ho0, hb⟩; refine ⟨_, rfl, ?_⟩; have HO531 := Aside0.mk (Kd.R_lower ho0 (below_size (zy HB))); replace HB := zh HB hb; clear hb ho0; obtain ⟨Ao5, co5, eo5⟩ := Kd.R_slice HO531.out; subst eo5))
 go_ret
 exact ⟨zt, zy HB⟩


/-! ### spec_pzWithout: function 60 -/
def spec_pzWithout.f (l0 : List (S39)) (a1 : Int) : Option ((List (S39))) := (some (([] : List (S39)) : List (S39))).bind fun y532 => (if 0 ≤ a1 then (if a1 ≤ (l0.length : Int) then ((some (l0.take (a1 : Int).toNat : List (S39))).bind fun y535 => (if y532.length + y535.length < 5864062014805 then ((some (y532 ++ y535 : List (S39))).bind fun y539 => (if 0 ≤ (wrap64 (a1 + 1)) then (if (wrap64 (a1 + 1)) ≤ (l0.length : Int) then ((some (l0.drop ((wrap64 (a1 + 1)) : Int).toNat : List (S39))).bind fun y542 => (if y539.length + y542.length < 5864062014805 then (some (y539 ++ y542)) else (none))) else (none)) else (none))) else (none))) else (none)) else (none))
def spec_pzWithout.T1 : Bool × List (List Nat × List Nat) := (true, [([], []), ([], []), ([], []), ([1, 2], [1, 2]), ([0, 3], [0, 3]), ([], []), ([], []), ([6], [6]), ([5, 7], [5, 7]), ([4, 8, 4], [4, 8]), ([9, 9, 0, 1, 2, 3, 4, 5, 6, 7, 8, 9], [9])])
def spec_pzWithout.B1 : List Nat := [0, 0, 0, 6, 15, 0, 0, 64, 224, 511, 1023]
theorem spec_pzWithout.tab1 : rtab .any (opsOf Try.f60 1) = spec_pzWithout.T1 := by kernel_rfl
theorem spec_pzWithout.bits1 : waitsOk spec_pzWithout.T1.2 spec_pzWithout.B1 = true := by kernel_rfl
set_option maxHeartbeats 8000000 in
set_option maxRecDepth 100000 in
theorem spec_pzWithout.calls (A0 : Option Addr) (c0 : Nat) (l0 : List (S39)) (a1 : Int) (r : List (S39)) (w : World) (hr0 : Kd.C k39 w A0 l0.length l0) (hc0 : l0.length ≤ c0) (h : spec_pzWithout.f l0 a1 = some r) :
  Calls Try.prog 60 #[.slice A0 l0.length c0, .int .i64 a1] w fun e w' => ∃ v0_ : Value, e = .returned (v0_) ∧ Kd.R k39 39 w' w.heap.size (fun _ => True) v0_ r ∧ Below w.heap.size w w' := by
 have HR0 := Aside0.mk hr0; have HC0 := Aside0.mk hc0; clear hr0 hc0
 have HB := Aside0.mk (Below.refl w.heap.size w)
 have H : ((some (([] : List (S39)) : List (S39))).bind fun y532 => (if 0 ≤ a1 then (if a1 ≤ (l0.length : Int) then ((some (l0.take (a1 : Int).toNat : List (S39))).bind fun y535 => (if y532.length + y535.length < 5864062014805 then ((some (y532 ++ y535 : List (S39))).bind fun y539 => (if 0 ≤ (wrap64 (a1 + 1)) then (if (wrap64 (a1 + 1)) ≤ (l0.length : Int) then ((some (l0.drop ((wrap64 (a1 + 1)) : Int).toNat : List (S39))).bind fun y542 => (if y539.length + y542.length < 5864062014805 then (some (y539 ++ y542)) else (none))) else (none)) else (none))) else (none))) else (none)) else (none))) = some r := h
 clear h
 obtain ⟨y532, hy532⟩ : ∃ y_ : List (S39), y_ = (([] : List (S39))) := ⟨_, rfl⟩
 replace H : (if 0 ≤ a1 then (if a1 ≤ (l0.length : Int) then ((some (l0.take (a1 : Int).toNat : List (S39))).bind fun y535 => (if y532.length + y535.length < 5864062014805 then ((some (y532 ++ y535 : List (S39))).bind fun y539 => (if 0 ≤ (wrap64 (a1 + 1)) then (if (wrap64 (a1 + 1)) ≤ (l0.length : Int) then ((some (l0.drop ((wrap64 (a1 + 1)) : Int).toNat : List (S39))).bind fun y542 => (if y539.length + y542.length < 5864062014805 then (some (y539 ++ y542)) else (none))) else (none)) else (none))) else (none))) else (none)) else (none)) = some r := by first | (rw [hy532]; with_reducible exact H) | (have H2_ := (Option.bind_some _ _).symm.trans H; rw [hy532]; with_reducible exact H2_) | (have H2_ := (Option.bind_some _ _).symm.trans H; with_reducible exact H2_) | with_reducible exact H | (rw [hy532]; exact H) | exact H
 have Ny532 := Aside0.mk hy532; clear hy532
 by_cases c3 : 0 ≤ a1
 ·rw [if_pos c3] at H
  have c3b0 := eq_true c3
  have c3b1 : decide (0 ≤ a1) = true := decide_eq_true c3
  clear c3
  by_cases c4 : a1 ≤ (l0.length : Int)
  ·rw [if_pos c4] at H
   have c4b0 := eq_true c4
   have c4b1 : decide (a1 ≤ (l0.length : Int)) = true := decide_eq_true c4
   clear c4
   obtain ⟨y535, hy535⟩ : ∃ y_ : List (S39), y_ = (l0.take (a1 : Int).toNat) := ⟨_, rfl⟩
   replace H : (if y532.length + y535.length < 5864062014805 then ((some (y532 ++ y535 : List (S39))).bind fun y539 => (if 0 ≤ (wrap64 (a1 + 1)) then (if (wrap64 (a1 + 1)) ≤ (l0.length : Int) then ((some (l0.drop ((wrap64 (a1 + 1)) : Int).toNat : List (S39))).bind fun y542 => (if y539.length + y542.length < 5864062014805 then (some (y539 ++ y542)) else (none))) else (none)) else (none))) else (none)) = some r := by first | (rw [hy535]; with_reducible exact H) | (have H2_ := (Option.bind_some _ _).symm.trans H; rw [hy535]; with_reducible exact H2_) | (have H2_ := (Option.bind_some _ _).symm.trans H; with_reducible exact H2_) | with_reducible exact H | (rw [hy535]; exact H) | exact H
   have Ny535 := Aside0.mk hy535; clear hy535
   by_cases c5 : y532.length + y535.length < 5864062014805
   ·rw [if_pos c5] at H
    have LMc5 := Aside0.mk c5; clear c5
    obtain ⟨y539, hy539⟩ : ∃ y_ : List (S39), y_ = (y532 ++ y535) := ⟨_, rfl⟩
    replace H : (if 0 ≤ (wrap64 (a1 + 1)) then (if (wrap64 (a1 + 1)) ≤ (l0.length : Int) then ((some (l0.drop ((wrap64 (a1 + 1)) : Int).toNat : List (S39))).bind fun y542 => (if y539.length + y542.length < 5864062014805 then (some (y539 ++ y542)) else (none))) else (none)) else (none)) = some r := by first | (rw [hy539]; with_reducible exact H) | (have H2_ := (Option.bind_some _ _).symm.trans H; rw [hy539]; with_reducible exact H2_) | (have H2_ := (Option.bind_some _ _).symm.trans H; with_reducible exact H2_) | with_reducible exact H | (rw [hy539]; exact H) | exact H
    have Ny539 := Aside0.mk hy539; clear hy539
    obtain ⟨ji6, hji6⟩ : ∃ j_ : Int, (wrap64 (a1 + 1)) = j_ := ⟨_, rfl⟩
    replace H : (if 0 ≤ (ji6) then (if (ji6) ≤ (l0.length : Int) then ((some (l0.drop ((ji6) : Int).toNat : List (S39))).bind fun y542 => (if y539.length + y542.length < 5864062014805 then (some (y539 ++ y542)) else (none))) else (none)) else (none)) = some r := by first | (rw [hji6] at H; exact H) | (simp only [hji6] at H ⊢; exact H)
    have hji6w : (IntKind.i64.wrap (a1 + 1)) = ji6 := (i64_w _).trans hji6
    by_cases c7 : 0 ≤ (ji6)
    ·rw [if_pos c7] at H
     have c7b0 := eq_true c7
     have c7b1 : decide (0 ≤ (ji6)) = true := decide_eq_true c7
     clear c7
     by_cases c8 : (ji6) ≤ (l0.length : Int)
     ·rw [if_pos c8] at H
      have c8b0 := eq_true c8
      have c8b1 : decide ((ji6) ≤ (l0.length : Int)) = true := decide_eq_true c8
      clear c8
      obtain ⟨y542, hy542⟩ : ∃ y_ : List (S39), y_ = (l0.drop ((ji6) : Int).toNat) := ⟨_, rfl⟩
      replace H : (if y539.length + y542.length < 5864062014805 then (some (y539 ++ y542)) else (none)) = some r := by first | (rw [hy542]; with_reducible exact H) | (have H2_ := (Option.bind_some _ _).symm.trans H; rw [hy542]; with_reducible exact H2_) | (have H2_ := (Option.bind_some _ _).symm.trans H; with_reducible exact H2_) | with_reducible exact H | (rw [hy542]; exact H) | exact H
      have Ny542 := Aside0.mk hy542; clear hy542
      by_cases c9 : y539.length + y542.length < 5864062014805
      ·rw [if_pos c9] at H
       have LMc9 := Aside0.mk c9; clear c9
       obtain ⟨y546, hy546⟩ : ∃ y_ : List (S39), y_ = (y539 ++ y542) := ⟨_, rfl⟩
       replace H : (some y546) = some r := by first | (rw [hy546]; with_reducible exact H) | (have H2_ := (Option.bind_some _ _).symm.trans H; rw [hy546]; with_reducible exact H2_) | (have H2_ := (Option.bind_some _ _).symm.trans H; with_reducible exact H2_) | with_reducible exact H | (rw [hy546]; exact H) | exact H
       have Ny546 := Aside0.mk hy546; clear hy546
       obtain rfl := Option.some.inj H
       go_enter Try.func60, Try.ntmps60
       try go_wp2
       replace HB := Aside0.mk (below_drew1 HB.out)
       have q11 : (a1 : Int) ≤ ((l0.length : Int) : Int) := of_decide_eq_true zO2_7
       obtain ⟨i011, hi011, _, hsz11, _⟩ := info_parts info39
       have hroom11 : l0.length ≤ c0 := HC0.out
       have hC11 : Kd.C k39 _ A0 l0.length l0 := HR0.out
       have hcut11 := cut_to (P := Try.prog) 28 39 .i64 Try.underlying28 hi011 A0 l0.length c0 a1 (of_decide_eq_true zO2_7) q11 hroom11
       have hr11 := Kd.C_take (m := (a1 : Int).toNat) hC11 zO2_8
       have hy11 : y535.length = (a1 : Int).toNat := (by rw [Ny535.out, List.length_take]; omega)
       rw [← Ny535.out] at hr11
       rw [← hy11] at hcut11
       have HR538 := Aside0.mk hr11
       have HC538 := Aside0.mk (show y535.length ≤ c0 from by omega)
       clear hr11 hC11 hroom11 hi011 hsz11; have KY11 := Aside0.mk hy11; clear hy11; replace q11 := eq_true q11
       have q12 : ((ji6) : Int) ≤ ((l0.length : Int) : Int) := of_decide_eq_true zO2_7
       obtain ⟨i012, hi012, _, hsz12, _⟩ := info_parts info39
       have hroom12 : l0.length ≤ c0 := HC0.out
       have hC12 : Kd.C k39 _ A0 l0.length l0 := HR0.out
       have q012 : (0 : Int) ≤ ((ji6) : Int) := of_decide_eq_true zO2_7
       have hcut12 := cut_from (P := Try.prog) 28 39 .i64 Try.underlying28 hi012 3 hsz12 A0 l0.length c0 (ji6) q012 q12
       have hr12 := Kd.C_drop (m := ((ji6) : Int).toNat) (c := c0) hC12 zO2_8 hroom12
       obtain ⟨A12, hA12⟩ : ∃ A1, A1 = (if c0 = ((ji6) : Int).toNat then A0 else (A0 : Option Addr).map (·.add (((ji6) : Int).toNat * 3))) := ⟨_, rfl⟩
       obtain ⟨c12, hc12⟩ : ∃ c1, c1 = c0 - ((ji6) : Int).toNat := ⟨_, rfl⟩
       have hy12 : y542.length = l0.length - ((ji6) : Int).toNat := (by rw [Ny542.out, List.length_drop] <;> omega)
       rw [show (l0).drop ((ji6) : Int).toNat = y542 from Ny542.out.symm] at hr12
       replace hr12 : Kd.C k39 _ A12 y542.length y542 := (by rw [hA12]; exact hr12)
       rw [← hy12, ← hA12, ← hc12] at hcut12
       have HR545 := Aside0.mk hr12
       have HC545 := Aside0.mk (show y542.length ≤ c12 from by rw [hy12, hc12]; exact Nat.sub_le_sub_right hroom12 _)
       clear hr12 hC12 hroom12 hi012 hsz12 hc12; have KY12 := Aside0.mk hy12; have KA12 := Aside0.mk hA12; clear hy12 hA12; replace q12 := eq_true q12
       refine start_ (n := 11) (S := fun w' => True) (ds := []) #[false, false, false, false, false, false, false, false, false, false, false] (by kernel_rfl) rfl rfl trivial (fun hHeld => ?_); refine with_tabW spec_pzWithout.tab1 spec_pzWithout.bits1 (fun HT_ HW_ => ?_)
       generalize w.drew = w10 at HB HR538 HR545 hHeld ⊢
       refine zA 1 6 HT_ ?_
       refine zA 2 7 HT_ ?_
       refine zA 3 8 HT_ ?_
       refine zA 5 10 HT_ ?_
       refine zA 6 11 HT_ ?_
       refine zA 7 12 HT_ ?_
       refine zA 8 13 HT_ ?_
       refine zO 0 (some 5) HT_ (fun K hK => ?_)
       refine Kd.R_lit_step k39 _ 39 ?hg (N := 5) ?hd (xs := ([] : List (S39))) (inner := []) (ok := fun _ => True) (okp := fun _ => True) ?hr ?hp (fun _ hk => hk) trivial (Below.refl _ _) (Nat.le_refl _) zO2_9 ?_; (case hd => rfl); (case hg => rfl); (case hr => first | (go_simp; done) | (go_simp; rfl)); (case hp => exact (Reps.none _ _))
       intro v533 w13 ho14 hb hg_ hnew_
       clear hg_ hnew_
       (first | rw [← Ny532.out] at ho14 | (simp only [Int.reduceToNat] at ho14; rw [← Ny532.out] at ho14))
       have HO534 := Aside0.mk (Kd.R_lower ho14 (below_size (zy HB)))
       replace HB := zh HB hb; clear hb ho14
       refine hK.out _ _ trivial (fun hHeld => ?_)
       clear hK K
       refine zN 5 ?_
       refine zO 4 (some 9) HT_ (fun K hK => ?_)
       refine Kd.R_append_rows_step k39 (w0 := w) w.heap.size (by rfl) (.tmp 5) (.tmp 8) 28 39 (.agg #[(.int .i64 0), (.int .i64 0), (.int .i64 0)]) 24 rfl Try.underlying28 info39 rfl (by decide) zO2_8 v533 y532 y535 _ _ _ (fun _ => True) (fun _ => False) rfl rfl ?aO ?aR (fun _ _ h => h) (fun _ h => h.elim) ?aF ?aB ?aS ?aL ?_
       (case aR => repeat (first | exact (Kd.C_below HR538.out HB.out) | (with_reducible refine Kd.C_alloc ?_ _) | (with_reducible refine Kd.C_drewN ?_ _) | (with_reducible refine Kd.C_drew ?_)))
       (case aB => exact (zy HB))
       (case aF => exact (fun _ _ => trivial))
       (case aO => exact (zs HO534))
       (case aS => exact (below_size (zy HB)))
       (case aL => have := LMc5.out; omega)
       intro v540 w15 ho hb hg hat
       rw [← Ny539.out] at ho
       have HO541 := Aside0.mk (ho)
       replace HB := Aside0.mk hb
       clear HO534; clear ho hb hg hat
       refine hK.out _ _ trivial (fun hHeld => ?_)
       clear hK K
       refine zN 9 ?_
       refine zO 9 (some 14) HT_ (fun K hK => ?_)
       refine Kd.R_append_rows_step k39 (w0 := w) w.heap.size (by rfl) (.tmp 9) (.tmp 13) 28 39 (.agg #[(.int .i64 0), (.int .i64 0), (.int .i64 0)]) 24 rfl Try.underlying28 info39 rfl (by decide) zO2_8 v540 y539 y542 _ _ _ (fun _ => True) (fun _ => False) rfl rfl ?aO ?aR (fun _ _ h => h) (fun _ h => h.elim) ?aF ?aB ?aS ?aL ?_
       (case aR => repeat (first | exact (Kd.C_below HR545.out HB.out) | (with_reducible refine Kd.C_alloc ?_ _) | (with_reducible refine Kd.C_drewN ?_ _) | (with_reducible refine Kd.C_drew ?_)))
       (case aB => exact (zy HB))
       (case aF => exact (fun _ _ => trivial))
       (case aO => exact (zs HO541))
       (case aS => exact (below_size (zy HB)))
       (case aL => have := LMc9.out; omega)
       intro v547 w16 ho hb hg hat
       rw [← Ny546.out] at ho
       have HO548 := Aside0.mk (ho)
       replace HB := Aside0.mk hb
       clear HO541; clear ho hb hg hat
       refine hK.out _ _ trivial (fun hHeld => ?_)
       clear hK K
       refine zN 14 ?_
       refine zA 10 4 HT_ ?_
       refine done_ (done_of HT_.out (by kernel_rfl)) ?_
       try go_wp2
       go_ret
       exact ⟨_, by first | rfl | (simp [errW_none, errW_some] <;> rfl) | (simp only [← hji6]; first | rfl | (simp [errW_none, errW_some] <;> rfl)) | (simp [*, errW_none, errW_some] <;> rfl), by (with_reducible repeat (first | apply Kd.R_alloc | apply Kd.R_drewN | apply Kd.R_drew)); exact HO548.out, zy HB⟩
      ·rw [if_neg c9] at H
       exact absurd H zO2_9
     ·rw [if_neg c8] at H
      exact absurd H zO2_9
    ·rw [if_neg c7] at H
     exact absurd H zO2_9
   ·rw [if_neg c5] at H
    exact absurd H zO2_9
  ·rw [if_neg c4] at H
   exact absurd H zO2_9
 ·rw [if_neg c3] at H
  exact absurd H zO2_9


/-! ### spec_HarderPuzzle: function 16 -/
mutual
def spec_HarderPuzzle.j0 : Nat → Bool → Int → List (S39) → Option (Int × (List (S39)) × Bool)
 | 0, _, _, _ => none
 | k + 1, x17, x550000, x550001 => if x17 = true then (some (0, ([] : List (S39)), false)) else ((some (([] : List (S39)) : List (S39))).bind fun y553 => (if y553.length + x550001.length < 5864062014805 then (spec_HarderPuzzle.l0 k (y553 ++ x550001) 0 x550000 x550001) else (none)))
def spec_HarderPuzzle.l0 : Nat → List (S39) → Int → Int → List (S39) → Option (Int × (List (S39)) × Bool)
 | 0, _, _, _, _ => none
 | k + 1, x4, x5, x550000, x550001 => if x5 < (x4.length : Int) then ((spec_pzWithout.f x4 x5).bind fun t559 => ((spec_pzSolved.f k x550000 t559).bind fun t562 => (if t562 = true then (spec_HarderPuzzle.l0 k t559 x5 x550000 x550001) else (spec_HarderPuzzle.l0 k x4 (wrap64 (x5 + 1)) x550000 x550001)))) else (some (x550000, x4, true))
end
def spec_HarderPuzzle.f (k : Nat) (a0_0 : Int) (l0_1 : List (S39)) : Option (Int × (List (S39)) × Bool) := (spec_pzGood.f k a0_0 l0_1).bind fun t551 => (if t551 = true then ((spec_pzSolved.f k a0_0 l0_1).bind fun t552 => (spec_HarderPuzzle.j0 k (!t552) a0_0 l0_1)) else (spec_HarderPuzzle.j0 k true a0_0 l0_1))
set_option maxHeartbeats 8000000 in
set_option maxRecDepth 100000 in
theorem spec_HarderPuzzle.calls (k : Nat) (a0_0 : Int) (A0_1 : Option Addr) (c0_1 : Nat) (l0_1 : List (S39)) (r1 : Int) (r2 : List (S39)) (r3 : Bool) (w : World) (hr0_1 : Kd.C k39 w A0_1 l0_1.length l0_1) (hc0_1 : l0_1.length ≤ c0_1) (h : spec_HarderPuzzle.f k a0_0 l0_1 = some (r1, r2, r3)) :
  Calls Try.prog 16 #[.agg #[.int .i64 a0_0, .slice A0_1 l0_1.length c0_1]] w fun e w' => ∃ v1_ : Value, e = .returned (.tuple #[.agg #[.int .i64 r1, v1_], .bool r3]) ∧ Kd.R k39 39 w' w.heap.size (fun _ => True) v1_ r2 ∧ Below w.heap.size w w' := by
 have hu30 := Try.underlying30; have HR0_1 := Aside0.mk hr0_1; have HC0_1 := Aside0.mk hc0_1; clear hr0_1 hc0_1
 have HB := Aside0.mk (Below.refl w.heap.size w)
 have H : ((spec_pzGood.f k a0_0 l0_1).bind fun t551 => (if t551 = true then ((spec_pzSolved.f k a0_0 l0_1).bind fun t552 => (spec_HarderPuzzle.j0 k (!t552) a0_0 l0_1)) else (spec_HarderPuzzle.j0 k true a0_0 l0_1))) = some (r1, r2, r3) := h
 clear h; have HC2 := Aside0.mk H; clear H
 go_enter Try.func16, Try.ntmps16
 go_upto_region 1 with (first | ((with_reducible refine gate_dst (N := 1) rfl ?_); refine zE 1 #[.int .i64 a0_0, .slice A0_1 l0_1.length c0_1] 30 ?_; intro gb549 hg w3 hbox hb; have BK549 := Aside0.mk (hbox); have GW549 := zg HB hg; have GE549 := GW549; replace HB := zh HB hb; clear hb hbox hg) | ((with_reducible refine gate_dst (N := 2) rfl ?_); refine zE 2 #[.int .i64 0, .slice none 0 0] 30 ?_; intro gb550 hg w4 hbox hb; have BK550 := Aside0.mk (hbox); have GW550 := zg HB hg; have GE550 := GW550; have NB549_550 := zl BK549 hg; have NB550_549 := zr BK549 hg; replace BK549 := zb BK549 hb; replace HB := zh HB hb; clear hb hbox hg))
 (try simp only [Act.put, List.setIfInBounds_toArray, List.set_cons_zero, List.set_cons_succ])
 go_cut [17] (fun v17 wc => ∃ (kq : Nat) (x17_1 : Bool), v17 = .bool x17_1 ∧ Aside0 (spec_HarderPuzzle.j0 kq x17_1 a0_0 l0_1 = some (r1, r2, r3)) ∧ Aside0 (kq ≤ k) ∧ Aside0 (wc.heap[gb549]? = some (.cells #[.int .i64 a0_0, (.slice A0_1 l0_1.length c0_1)] 30 (0, 0))) ∧ Aside0 (wc.heap[gb550]? = some (.cells #[.int .i64 0, (.slice none 0 0)] 30 (0, 0))) ∧ Aside0 (Below w.heap.size w wc))
 case first =>
  have H := HC2.out; clear HC2; replace H := Option.bind_eq_some_iff.mp H; obtain ⟨t551, A50, H⟩ := H; (try dsimp only at H); have A5 := Aside0.mk A50; clear A50
  by_cases c6 : t551 = true
  ·subst c6
   rw [if_pos rfl] at H; replace H := Option.bind_eq_some_iff.mp H; obtain ⟨t552, A70, H⟩ := H
   replace H : (spec_HarderPuzzle.j0 k (!t552) a0_0 l0_1) = some (r1, r2, r3) := H
   have A7 := Aside0.mk A70; clear A70; have H' := Aside0.mk H; clear H; have hnb8 := NB549_550.out; have hnc8 := NB550_549.out
   obtain ⟨_, _, _, _⟩ := zc2 BK549
   go_wp2_with (first | ((with_reducible refine gate_callee (f := 58) rfl ?_); refine zG (some 8) Try.func58 #[.agg #[.int .i64 a0_0, .slice A0_1 l0_1.length c0_1]] ?_; (with_reducible refine (spec_pzGood.calls k a0_0 _ _ l0_1 true _ ?side1 ?side2 A5.out).mono ?_); (case side1 => repeat (first | exact (Kd.C_below HR0_1.out HB.out) | (with_reducible refine Kd.C_alloc ?_ _) | (with_reducible refine Kd.C_drewN ?_ _) | (with_reducible refine Kd.C_drew ?_))); (case side2 => exact HC0_1.out); rintro e w10 ⟨rfl, hb⟩; refine ⟨_, rfl, ?_⟩; replace BK549 := zb BK549 hb; replace BK550 := zb BK550 hb; replace HB := zh HB hb; clear hb; obtain ⟨_, _, _, _⟩ := zc2 BK549) | (go_at_call 59; (with_reducible refine (spec_pzSolved.calls k a0_0 _ _ l0_1 t552 _ ?side1 ?side2 A7.out).mono ?_); (case side1 => repeat (first | exact (Kd.C_below HR0_1.out HB.out) | (with_reducible refine Kd.C_alloc ?_ _) | (with_reducible refine Kd.C_drewN ?_ _) | (with_reducible refine Kd.C_drew ?_))); (case side2 => exact HC0_1.out); rintro e w12 ⟨rfl, hb⟩; replace BK549 := zb BK549 hb; replace BK550 := zb BK550 hb; replace HB := zh HB hb; clear hb))
   go_meet
   case rel => exact ⟨_, (!t552), zu, H', ⟨by first | omega | exact Nat.le_refl _⟩, zk BK549, zk BK550, ⟨zy HB⟩⟩
  ·replace c6 := Bool.eq_false_iff.mpr c6
   subst c6; rw [if_neg (show ¬ (false = true) by decide)] at H; have H' := Aside0.mk H; clear H; have hnb13 := NB549_550.out; have hnc13 := NB550_549.out
   obtain ⟨_, _, _, _⟩ := zc2 BK549
   go_wp2_with (first | ((with_reducible refine gate_callee (f := 58) rfl ?_); refine zG (some 8) Try.func58 #[.agg #[.int .i64 a0_0, .slice A0_1 l0_1.length c0_1]] ?_; (with_reducible refine (spec_pzGood.calls k a0_0 _ _ l0_1 false _ ?side1 ?side2 A5.out).mono ?_); (case side1 => repeat (first | exact (Kd.C_below HR0_1.out HB.out) | (with_reducible refine Kd.C_alloc ?_ _) | (with_reducible refine Kd.C_drewN ?_ _) | (with_reducible refine Kd.C_drew ?_))); (case side2 => exact HC0_1.out); rintro e w15 ⟨rfl, hb⟩; refine ⟨_, rfl, ?_⟩; replace BK549 := zb BK549 hb; replace BK550 := zb BK550 hb; replace HB := zh HB hb; clear hb))
   go_meet
   case rel => exact ⟨_, (true), zu, H', ⟨by first | omega | exact Nat.le_refl _⟩, zk BK549, zk BK550, ⟨zy HB⟩⟩
 case rest =>
  clear HC2
  obtain ⟨kq, x17_1, rfl, HA, HJ1, BK549, BK550, HB⟩ := hcut
  cases kq with
  | zero => exact absurd HA.out (by simp [spec_HarderPuzzle.j0])
  | succ kj1 =>
   have H := HA.out; clear HA; simp only [spec_HarderPuzzle.j0] at H
   by_cases c16 : x17_1 = true
   ·subst c16
    rw [if_pos rfl] at H; simp only [Option.some.injEq, Prod.mk.injEq] at H; obtain ⟨rfl, rfl, rfl⟩ := H; have hnb17 := NB550_549.out; have hnc17 := NB549_550.out
    obtain ⟨_, _, _, _⟩ := zc2 BK550
    go_wp2
    refine bodyPost_ret (results_ct rfl _ _ gb550 30 #[.int .i64 0, .slice none 0 0] (0, 0) _ rfl (zw BK550) Try.underlying30 rfl (by kernel_rfl)) rfl ?_
    exact ⟨_, zt, by first | exact Kd.R_nil _ _ _ _ _ | exact Kd.N_nil _ _ _ _ _ | exact Kd.V_nil _ _ _ _ _ | exact Kd.Q_nil _ _ _ _ _ | exact Kd.S_nil _ _ _ _ _, zy HB⟩
   ·replace c16 := Bool.eq_false_iff.mpr c16
    subst c16; rw [if_neg (show ¬ (false = true) by decide)] at H
    obtain ⟨y553, hy553⟩ : ∃ y_ : List (S39), y_ = (([] : List (S39))) := ⟨_, rfl⟩
    replace H : (if y553.length + l0_1.length < 5864062014805 then (spec_HarderPuzzle.l0 kj1 (y553 ++ l0_1) 0 a0_0 l0_1) else (none)) = some (r1, r2, r3) := by first | (rw [hy553]; with_reducible exact H) | (have H2_ := (Option.bind_some _ _).symm.trans H; rw [hy553]; with_reducible exact H2_) | (have H2_ := (Option.bind_some _ _).symm.trans H; with_reducible exact H2_) | with_reducible exact H | (rw [hy553]; exact H) | exact H
    have Ny553 := Aside0.mk hy553; clear hy553
    by_cases c19 : y553.length + l0_1.length < 5864062014805
    ·rw [if_pos c19] at H
     have LMc19 := Aside0.mk c19; clear c19
     obtain ⟨y556, hy556⟩ : ∃ y_ : List (S39), y_ = (y553 ++ l0_1) := ⟨_, rfl⟩
     replace H : (spec_HarderPuzzle.l0 kj1 y556 0 a0_0 l0_1) = some (r1, r2, r3) := by first | (rw [hy556]; with_reducible exact H) | (have H2_ := (Option.bind_some _ _).symm.trans H; rw [hy556]; with_reducible exact H2_) | (have H2_ := (Option.bind_some _ _).symm.trans H; with_reducible exact H2_) | with_reducible exact H | (rw [hy556]; exact H) | exact H
     have Ny556 := Aside0.mk hy556; clear hy556; have H' := Aside0.mk H; clear H
     go_wp2_with (first | ((with_reducible refine gate_dst (N := 19) rfl ?_); refine Kd.R_lit k39 _ 39 ?hg (N := 19) ?hd (xs := ([] : List (S39))) (inner := []) (ok := fun _ => True) (okp := fun _ => True) ?hr ?hp (fun _ hk => hk) trivial (Below.refl _ _) (Nat.le_refl _) zO2_9 ?_; (case hd => rfl); (case hg => rfl); (case hr => first | (go_simp; done) | (go_simp; rfl)); (case hp => exact (Reps.none _ _)); intro v554 w20 ho21 hb hg_ hnew_; clear hg_ hnew_; (first | rw [← Ny553.out] at ho21 | (simp only [Int.reduceToNat] at ho21; rw [← Ny553.out] at ho21)); have HO555 := Aside0.mk (Kd.R_lower ho21 (below_size (zy HB))); replace BK549 := zb BK549 hb; replace BK550 := zb BK550 hb; replace HB := zh HB hb; clear hb ho21; have hnb22 := NB549_550.out; have hnc22 := NB550_549.out; obtain ⟨_, _, _, _⟩ := zc2 BK549) | ((with_reducible refine gate_builtin (b := .append) (xs := #[.tmp 19, .tmp 21]) rfl ?_); at_builtin; refine Kd.R_append_rows k39 (w0 := w) w.heap.size rfl (.tmp 19) (.tmp 21) 28 39 (.agg #[(.int .i64 0), (.int .i64 0), (.int .i64 0)]) 24 rfl Try.underlying28 info39 rfl (by decide) zO2_8 v554 y553 l0_1 _ _ _ (fun _ => True) (fun _ => False) rfl rfl ?aO ?aR (fun _ _ h => h) (fun _ h => h.elim) ?aF ?aB ?aS ?aL ?_; (case aR => repeat (first | exact (Kd.C_below HR0_1.out HB.out) | (with_reducible refine Kd.C_alloc ?_ _) | (with_reducible refine Kd.C_drewN ?_ _) | (with_reducible refine Kd.C_drew ?_))); (case aB => exact (zy HB)); (case aF => exact (fun _ _ => trivial)); (case aO => exact (zs HO555)); (case aS => exact (below_size (zy HB))); (case aL => have := LMc19.out; omega); intro v557 w24 ho hb hg hat; rw [← Ny556.out] at ho; have n0_ := Aside0.mk (blk_grown (zq BK549) hg (Kd.R_ne HO555.out BK549.out (by decide))); have n1_ := Aside0.mk (blk_grown (zq BK550) hg (Kd.R_ne HO555.out BK550.out (by decide))); have HO558 := Aside0.mk (ho); replace HB := Aside0.mk hb; clear HO555; clear BK549; have BK549 := n0_; clear n0_; clear BK550; have BK550 := n1_; clear n1_; clear ho hb hg hat))
     go_loopg [4, 5] kj1 (fun kq v4 v5 w' => ∃ (x4_2 : List (S39)) (x5_2 : Int), v5 = .int .i64 x5_2 ∧ Aside0 (spec_HarderPuzzle.l0 kq x4_2 x5_2 a0_0 l0_1 = some (r1, r2, r3)) ∧ Aside0 (kq ≤ kj1) ∧ Aside0 (Kd.R k39 39 w' w.heap.size (fun _ => True) v4 x4_2) ∧ Aside0 (w'.heap[gb549]? = some (.cells #[.int .i64 a0_0, (.slice A0_1 l0_1.length c0_1)] 30 (0, 0))) ∧ Aside0 (w'.heap[gb550]? = some (.cells #[.int .i64 0, (.slice none 0 0)] 30 (0, 0))) ∧ Aside0 (Below w.heap.size w w'))
     case atStart => exact ⟨(y556), (0), zu, H', ⟨Nat.le_refl _⟩, zp HO558, zk BK549, zk BK550, ⟨zy HB⟩⟩
     case round =>
      clear H'
      obtain ⟨x4_2, x5_2, rfl, HA, HK2, HO_4, BK549, BK550, HB⟩ := hrel
      cases gk with
      | zero => exact absurd HA.out (by simp [spec_HarderPuzzle.l0])
      | succ k2 =>
       have H := HA.out; clear HA; simp only [spec_HarderPuzzle.l0] at H
       by_cases c25 : x5_2 < (x4_2.length : Int)
       ·rw [if_pos c25] at H
        have c25b0 : decide (x5_2 < (x4_2.length : Int)) = true := decide_eq_true c25; clear c25; replace H := Option.bind_eq_some_iff.mp H; obtain ⟨t559, A260, H⟩ := H; (try dsimp only at H); have A26 := Aside0.mk A260; clear A260; replace H := Option.bind_eq_some_iff.mp H; obtain ⟨t562, A270, H⟩ := H
        replace H : (if t562 = true then (spec_HarderPuzzle.l0 k2 t559 x5_2 a0_0 l0_1) else (spec_HarderPuzzle.l0 k2 x4_2 (wrap64 (x5_2 + 1)) a0_0 l0_1)) = some (r1, r2, r3) := H
        have A27 := Aside0.mk A270; clear A270
        by_cases c28 : t562 = true
        ·subst c28
         rw [if_pos rfl] at H; have H' := Aside0.mk H; clear H
         obtain ⟨Ao29, co29, eo29⟩ := Kd.R_slice HO_4.out
         subst eo29
         go_wp2_with (first | ((with_reducible refine gate_callee (f := 60) rfl ?_); refine zG (some 29) Try.func60 #[.slice Ao29 x4_2.length co29, .int .i64 x5_2] ?_; (with_reducible refine (spec_pzWithout.calls _ _ x4_2 x5_2 t559 _ ?side1 ?side2 A26.out).mono ?_); (case side1 => repeat (first | exact (Kd.R_reads' HO_4.out).2.2 | (with_reducible refine Kd.C_alloc ?_ _) | (with_reducible refine Kd.C_drewN ?_ _) | (with_reducible refine Kd.C_drew ?_))); (case side2 => exact (Kd.R_reads' HO_4.out).2.1); rintro e w30 ⟨v560, rfl, ho0, hb⟩; refine ⟨_, rfl, ?_⟩; have n0_ := Aside0.mk (Kd.R_elder' (zs HO_4) (Kd.R_base ho0) hb); have HO561 := Aside0.mk (Kd.R_lower (Kd.R_new' ho0 (Kd.R_lt (zs HO_4))) (below_size (zy HB))); replace BK549 := zb BK549 hb; replace BK550 := zb BK550 hb; replace HB := zh HB hb; clear HO_4; have HO_4 := n0_; clear n0_; clear hb ho0; have hnb31 := NB549_550.out; have hnc31 := NB550_549.out; obtain ⟨_, _, _, _⟩ := zc2 BK549; obtain ⟨Ao33, co33, eo33⟩ := Kd.R_slice HO561.out; subst eo33) | ((with_reducible refine gate_callee (f := 59) rfl ?_); refine zG (some 33) Try.func59 #[.int .i64 a0_0, .slice Ao33 t559.length co33] ?_; (with_reducible refine (spec_pzSolved.calls k2 a0_0 _ _ t559 true _ ?side1 ?side2 A27.out).mono ?_); (case side1 => repeat (first | exact (Kd.R_reads' HO561.out).2.2 | (with_reducible refine Kd.C_alloc ?_ _) | (with_reducible refine Kd.C_drewN ?_ _) | (with_reducible refine Kd.C_drew ?_))); (case side2 => exact (Kd.R_reads' HO561.out).2.1); rintro e w34 ⟨rfl, hb⟩; refine ⟨_, rfl, ?_⟩; replace HO_4 := zo HO_4 hb; replace HO561 := zo HO561 hb; replace BK549 := zb BK549 hb; replace BK550 := zb BK550 hb; replace HB := zh HB hb; clear hb))
         go_roundg k2
         case measure => have := HJ1.out; have := HK2.out; omega
         case rel => exact ⟨(t559), (x5_2), zu, H', ⟨by have := HJ1.out; have := HK2.out; omega⟩, ⟨by (with_reducible repeat (first | apply Kd.R_alloc | apply Kd.R_drewN | apply Kd.R_drew)); exact Kd.R_mono HO561.out (fun _ hk => trivial)⟩, zk BK549, zk BK550, ⟨zy HB⟩⟩
        ·replace c28 := Bool.eq_false_iff.mpr c28
         subst c28; rw [if_neg (show ¬ (false = true) by decide)] at H; have H' := Aside0.mk H; clear H
         obtain ⟨Ao35, co35, eo35⟩ := Kd.R_slice HO_4.out
         subst eo35
         go_wp2_with (first | ((with_reducible refine gate_callee (f := 60) rfl ?_); refine zG (some 29) Try.func60 #[.slice Ao35 x4_2.length co35, .int .i64 x5_2] ?_; (with_reducible refine (spec_pzWithout.calls _ _ x4_2 x5_2 t559 _ ?side1 ?side2 A26.out).mono ?_); (case side1 => repeat (first | exact (Kd.R_reads' HO_4.out).2.2 | (with_reducible refine Kd.C_alloc ?_ _) | (with_reducible refine Kd.C_drewN ?_ _) | (with_reducible refine Kd.C_drew ?_))); (case side2 => exact (Kd.R_reads' HO_4.out).2.1); rintro e w36 ⟨v560, rfl, ho0, hb⟩; refine ⟨_, rfl, ?_⟩; have n0_ := Aside0.mk (Kd.R_elder' (zs HO_4) (Kd.R_base ho0) hb); have HO561 := Aside0.mk (Kd.R_lower (Kd.R_new' ho0 (Kd.R_lt (zs HO_4))) (below_size (zy HB))); replace BK549 := zb BK549 hb; replace BK550 := zb BK550 hb; replace HB := zh HB hb; clear HO_4; have HO_4 := n0_; clear n0_; clear hb ho0; have hnb37 := NB549_550.out; have hnc37 := NB550_549.out; obtain ⟨_, _, _, _⟩ := zc2 BK549; obtain ⟨Ao39, co39, eo39⟩ := Kd.R_slice HO561.out; subst eo39) | ((with_reducible refine gate_callee (f := 59) rfl ?_); refine zG (some 33) Try.func59 #[.int .i64 a0_0, .slice Ao39 t559.length co39] ?_; (with_reducible refine (spec_pzSolved.calls k2 a0_0 _ _ t559 false _ ?side1 ?side2 A27.out).mono ?_); (case side1 => repeat (first | exact (Kd.R_reads' HO561.out).2.2 | (with_reducible refine Kd.C_alloc ?_ _) | (with_reducible refine Kd.C_drewN ?_ _) | (with_reducible refine Kd.C_drew ?_))); (case side2 => exact (Kd.R_reads' HO561.out).2.1); rintro e w40 ⟨rfl, hb⟩; refine ⟨_, rfl, ?_⟩; replace HO_4 := zo HO_4 hb; replace HO561 := zo HO561 hb; replace BK549 := zb BK549 hb; replace BK550 := zb BK550 hb; replace HB := zh HB hb; clear hb))
         go_roundg k2
         case measure => have := HJ1.out; have := HK2.out; omega
         case rel => exact ⟨(x4_2), (wrap64 (x5_2 + 1)), zu, H', ⟨by have := HJ1.out; have := HK2.out; omega⟩, ⟨by (with_reducible repeat (first | apply Kd.R_alloc | apply Kd.R_drewN | apply Kd.R_drew)); exact Kd.R_mono HO_4.out (fun _ hk => trivial)⟩, zk BK549, zk BK550, ⟨zy HB⟩⟩
       ·rw [if_neg c25] at H
        have c25b0 : decide (x5_2 < (x4_2.length : Int)) = false := decide_eq_false c25; clear c25; simp only [Option.some.injEq, Prod.mk.injEq] at H; obtain ⟨rfl, rfl, rfl⟩ := H
        obtain ⟨Ao41, co41, eo41⟩ := Kd.R_slice HO_4.out
        subst eo41; have hnb42 := NB549_550.out; have hnc42 := NB550_549.out
        obtain ⟨_, _, _, _⟩ := zc2 BK549
        obtain ⟨_, _, _, _⟩ := zc2 BK550
        go_wp2
        refine bodyPost_ret (results_ct rfl _ _ gb550 30 #[.int .i64 a0_0, .slice Ao41 x4_2.length co41] (0, 0) _ rfl (zw BK550) Try.underlying30 rfl (by kernel_rfl)) rfl ?_
        exact ⟨_, zt, by (with_reducible repeat (first | apply Kd.R_alloc | apply Kd.R_drewN | apply Kd.R_drew)); exact Kd.R_mono (Kd.R_far (p := ⟨gb550, 1, none⟩) (Kd.R_far (p := ⟨gb550, 0, none⟩) (Kd.R_types HO_4.out BK550.out (by decide)) (fun _ hk => hk.2) (.int .i64 a0_0)) (fun _ hk => hk.2) (.slice Ao41 x4_2.length co41)) (fun _ hk => trivial), zy HB⟩
    ·rw [if_neg c19] at H
     exact absurd H zO2_9


/-! ### impl_IsSolved: function 17 -/
def impl_IsSolved.f (k : Nat) (a0_0 : Int) (l0_1 : List (S39)) : Option (Bool × Bool) := (impl_IsPuzzle.f k a0_0 l0_1).bind fun t564 => (if t564 = true then ((impl_isSolved.f k a0_0 l0_1).bind fun t565 => (some (t565, true))) else (some (false, false)))
set_option maxHeartbeats 8000000 in
set_option maxRecDepth 100000 in
theorem impl_IsSolved.calls (k : Nat) (a0_0 : Int) (A0_1 : Option Addr) (c0_1 : Nat) (l0_1 : List (S39)) (r1 : Bool) (r2 : Bool) (w : World) (hr0_1 : Kd.C k39 w A0_1 l0_1.length l0_1) (hc0_1 : l0_1.length ≤ c0_1) (h : impl_IsSolved.f k a0_0 l0_1 = some (r1, r2)) :
  Calls Try.prog 17 #[.agg #[.int .i64 a0_0, .slice A0_1 l0_1.length c0_1]] w fun e w' => e = .returned (.tuple #[.bool r1, .bool r2]) ∧ Below w.heap.size w w' := by
 have hu30 := Try.underlying30; have HR0_1 := Aside0.mk hr0_1; have HC0_1 := Aside0.mk hc0_1; clear hr0_1 hc0_1
 have HB := Aside0.mk (Below.refl w.heap.size w)
 have H : ((impl_IsPuzzle.f k a0_0 l0_1).bind fun t564 => (if t564 = true then ((impl_isSolved.f k a0_0 l0_1).bind fun t565 => (some (t565, true))) else (some (false, false)))) = some (r1, r2) := h
 clear h; replace H := Option.bind_eq_some_iff.mp H; obtain ⟨t564, A20, H⟩ := H
 replace H : (if t564 = true then ((impl_isSolved.f k a0_0 l0_1).bind fun t565 => (some (t565, true))) else (some (false, false))) = some (r1, r2) := H
 have A2 := Aside0.mk A20; clear A20
 by_cases c3 : t564 = true
 ·subst c3
  rw [if_pos rfl] at H; replace H := Option.bind_eq_some_iff.mp H; obtain ⟨t565, A40, H⟩ := H
  replace H : (some (t565, true)) = some (r1, r2) := H
  have A4 := Aside0.mk A40; clear A40; simp only [Option.some.injEq, Prod.mk.injEq] at H; obtain ⟨rfl, rfl⟩ := H
  go_enter Try.func17, Try.ntmps17
  go_wp2_with (first | ((with_reducible refine gate_dst (N := 1) rfl ?_); refine zE 1 #[.int .i64 a0_0, .slice A0_1 l0_1.length c0_1] 30 ?_; intro gb563 hg w5 hbox hb; have BK563 := Aside0.mk (hbox); have GW563 := zg HB hg; have GE563 := GW563; replace HB := zh HB hb; clear hb hbox hg; obtain ⟨_, _, _, _⟩ := zc2 BK563) | ((with_reducible refine gate_callee (f := 13) rfl ?_); refine zG (some 5) Try.func13 #[.agg #[.int .i64 a0_0, .slice A0_1 l0_1.length c0_1]] ?_; (with_reducible refine (impl_IsPuzzle.calls k a0_0 _ _ l0_1 true _ ?side1 ?side2 A2.out).mono ?_); (case side1 => repeat (first | exact (Kd.C_below HR0_1.out HB.out) | (with_reducible refine Kd.C_alloc ?_ _) | (with_reducible refine Kd.C_drewN ?_ _) | (with_reducible refine Kd.C_drew ?_))); (case side2 => exact HC0_1.out); rintro e w7 ⟨rfl, hb⟩; refine ⟨_, rfl, ?_⟩; replace BK563 := zb BK563 hb; replace HB := zh HB hb; clear hb; obtain ⟨_, _, _, _⟩ := zc2 BK563) | ((with_reducible refine gate_callee (f := 55) rfl ?_); refine zG (some 11) Try.func55 #[.int .i64 a0_0, .slice A0_1 l0_1.length c0_1] ?_; (with_reducible refine (impl_isSolved.calls k a0_0 _ _ l0_1 t565 _ ?side1 ?side2 A4.out).mono ?_); (case side1 => repeat (first | exact (Kd.C_below HR0_1.out HB.out) | (with_reducible refine Kd.C_alloc ?_ _) | (with_reducible refine Kd.C_drewN ?_ _) | (with_reducible refine Kd.C_drew ?_))); (case side2 => exact HC0_1.out); rintro e w9 ⟨rfl, hb⟩; refine ⟨_, rfl, ?_⟩; replace BK563 := zb BK563 hb; replace HB := zh HB hb; clear hb))
  go_ret2
  exact ⟨zt, zy HB⟩
 ·replace c3 := Bool.eq_false_iff.mpr c3
  subst c3; rw [if_neg (show ¬ (false = true) by decide)] at H; simp only [Option.some.injEq, Prod.mk.injEq] at H; obtain ⟨rfl, rfl⟩ := H
  go_enter Try.func17, Try.ntmps17
  go_wp2_with (first | ((with_reducible refine gate_dst (N := 1) rfl ?_); refine zE 1 #[.int .i64 a0_0, .slice A0_1 l0_1.length c0_1] 30 ?_; intro gb563 hg w10 hbox hb; have BK563 := Aside0.mk (hbox); have GW563 := zg HB hg; have GE563 := GW563; replace HB := zh HB hb; clear hb hbox hg; obtain ⟨_, _, _, _⟩ := zc2 BK563) | ((with_reducible refine gate_callee (f := 13) rfl ?_); refine zG (some 5) Try.func13 #[.agg #[.int .i64 a0_0, .slice A0_1 l0_1.length c0_1]] ?_; (with_reducible refine (impl_IsPuzzle.calls k a0_0 _ _ l0_1 false _ ?side1 ?side2 A2.out).mono ?_); (case side1 => repeat (first | exact (Kd.C_below HR0_1.out HB.out) | (with_reducible refine Kd.C_alloc ?_ _) | (with_reducible refine Kd.C_drewN ?_ _) | (with_reducible refine Kd.C_drew ?_))); (case side2 => exact HC0_1.out); rintro e w12 ⟨rfl, hb⟩; refine ⟨_, rfl, ?_⟩; replace BK563 := zb BK563 hb; replace HB := zh HB hb; clear hb))
  go_ret2
  exact ⟨zt, zy HB⟩


/-! ### impl_Solutions: function 18 -/
def impl_Solutions.f (k : Nat) (a0_0 : Int) (l0_1 : List (S39)) : Option ((List (S25)) × Bool) := (impl_IsPuzzle.f k a0_0 l0_1).bind fun t567 => (if t567 = true then ((impl_solutions.f k a0_0 l0_1).bind fun t568 => (some (t568, true))) else (some (([] : List (S25)), false)))
set_option maxHeartbeats 8000000 in
set_option maxRecDepth 100000 in
theorem impl_Solutions.calls (k : Nat) (a0_0 : Int) (A0_1 : Option Addr) (c0_1 : Nat) (l0_1 : List (S39)) (r1 : List (S25)) (r2 : Bool) (w : World) (hr0_1 : Kd.C k39 w A0_1 l0_1.length l0_1) (hc0_1 : l0_1.length ≤ c0_1) (h : impl_Solutions.f k a0_0 l0_1 = some (r1, r2)) :
  Calls Try.prog 18 #[.agg #[.int .i64 a0_0, .slice A0_1 l0_1.length c0_1]] w fun e w' => ∃ v0_ : Value, e = .returned (.tuple #[v0_, .bool r2]) ∧ Kd.R k25 25 w' w.heap.size (fun _ => True) v0_ r1 ∧ Below w.heap.size w w' := by
 have hu30 := Try.underlying30; have HR0_1 := Aside0.mk hr0_1; have HC0_1 := Aside0.mk hc0_1; clear hr0_1 hc0_1
 have HB := Aside0.mk (Below.refl w.heap.size w)
 have H : ((impl_IsPuzzle.f k a0_0 l0_1).bind fun t567 => (if t567 = true then ((impl_solutions.f k a0_0 l0_1).bind fun t568 => (some (t568, true))) else (some (([] : List (S25)), false)))) = some (r1, r2) := h
 clear h; replace H := Option.bind_eq_some_iff.mp H; obtain ⟨t567, A20, H⟩ := H
 replace H : (if t567 = true then ((impl_solutions.f k a0_0 l0_1).bind fun t568 => (some (t568, true))) else (some (([] : List (S25)), false))) = some (r1, r2) := H
 have A2 := Aside0.mk A20; clear A20
 by_cases c3 : t567 = true
 ·subst c3
  rw [if_pos rfl] at H; replace H := Option.bind_eq_some_iff.mp H; obtain ⟨t568, A40, H⟩ := H
  replace H : (some (t568, true)) = some (r1, r2) := H
  have A4 := Aside0.mk A40; clear A40; simp only [Option.some.injEq, Prod.mk.injEq] at H; obtain ⟨rfl, rfl⟩ := H
  go_enter Try.func18, Try.ntmps18
  go_wp2_with (first | ((with_reducible refine gate_dst (N := 1) rfl ?_); refine zE 1 #[.int .i64 a0_0, .slice A0_1 l0_1.length c0_1] 30 ?_; intro gb566 hg w5 hbox hb; have BK566 := Aside0.mk (hbox); have GW566 := zg HB hg; have GE566 := GW566; replace HB := zh HB hb; clear hb hbox hg; obtain ⟨_, _, _, _⟩ := zc2 BK566) | ((with_reducible refine gate_callee (f := 13) rfl ?_); refine zG (some 5) Try.func13 #[.agg #[.int .i64 a0_0, .slice A0_1 l0_1.length c0_1]] ?_; (with_reducible refine (impl_IsPuzzle.calls k a0_0 _ _ l0_1 true _ ?side1 ?side2 A2.out).mono ?_); (case side1 => repeat (first | exact (Kd.C_below HR0_1.out HB.out) | (with_reducible refine Kd.C_alloc ?_ _) | (with_reducible refine Kd.C_drewN ?_ _) | (with_reducible refine Kd.C_drew ?_))); (case side2 => exact HC0_1.out); rintro e w7 ⟨rfl, hb⟩; refine ⟨_, rfl, ?_⟩; replace BK566 := zb BK566 hb; replace HB := zh HB hb; clear hb; obtain ⟨_, _, _, _⟩ := zc2 BK566) | ((with_reducible refine gate_callee (f := 61) rfl ?_); refine zG (some 11) Try.func61 #[.int .i64 a0_0, .slice A0_1 l0_1.length c0_1] ?_; (with_reducible refine (impl_solutions.calls k a0_0 _ _ l0_1 t568 _ ?side1 ?side2 A4.out).mono ?_); (case side1 => repeat (first | exact (Kd.C_below HR0_1.out HB.out) | (with_reducible refine Kd.C_alloc ?_ _) | (with_reducible refine Kd.C_drewN ?_ _) | (with_reducible refine Kd.C_drew ?_))); (case side2 => exact HC0_1.out); rintro e w9 ⟨v569, rfl, ho0, hb⟩; refine ⟨_, rfl, ?_⟩; have HO570 := Aside0.mk (Kd.R_lower ho0 (below_size (zy HB))); replace BK566 := zb BK566 hb; replace HB := zh HB hb; clear hb ho0))
  go_ret2
  exact ⟨_, zt, by (with_reducible repeat (first | apply Kd.R_alloc | apply Kd.R_drewN | apply Kd.R_drew)); exact HO570.out, zy HB⟩
 ·replace c3 := Bool.eq_false_iff.mpr c3
  subst c3; rw [if_neg (show ¬ (false = true) by decide)] at H; simp only [Option.some.injEq, Prod.mk.injEq] at H; obtain ⟨rfl, rfl⟩ := H
  go_enter Try.func18, Try.ntmps18
  go_wp2_with (first | ((with_reducible refine gate_dst (N := 1) rfl ?_); refine zE 1 #[.int .i64 a0_0, .slice A0_1 l0_1.length c0_1] 30 ?_; intro gb566 hg w10 hbox hb; have BK566 := Aside0.mk (hbox); have GW566 := zg HB hg; have GE566 := GW566; replace HB := zh HB hb; clear hb hbox hg; obtain ⟨_, _, _, _⟩ := zc2 BK566) | ((with_reducible refine gate_callee (f := 13) rfl ?_); refine zG (some 5) Try.func13 #[.agg #[.int .i64 a0_0, .slice A0_1 l0_1.length c0_1]] ?_; (with_reducible refine (impl_IsPuzzle.calls k a0_0 _ _ l0_1 false _ ?side1 ?side2 A2.out).mono ?_); (case side1 => repeat (first | exact (Kd.C_below HR0_1.out HB.out) | (with_reducible refine Kd.C_alloc ?_ _) | (with_reducible refine Kd.C_drewN ?_ _) | (with_reducible refine Kd.C_drew ?_))); (case side2 => exact HC0_1.out); rintro e w12 ⟨rfl, hb⟩; refine ⟨_, rfl, ?_⟩; replace BK566 := zb BK566 hb; replace HB := zh HB hb; clear hb))
  go_ret2
  exact ⟨_, zt, by first | exact Kd.R_nil _ _ _ _ _ | exact Kd.N_nil _ _ _ _ _ | exact Kd.V_nil _ _ _ _ _ | exact Kd.Q_nil _ _ _ _ _ | exact Kd.S_nil _ _ _ _ _, zy HB⟩


/-! ### impl_CountSolutions: function 62 -/
def impl_CountSolutions.f (k : Nat) (a0_0 : Int) (l0_1 : List (S39)) : Option (Int × Bool) := (impl_Solutions.f k a0_0 l0_1).bind fun bt572 => (some ((bt572.1.length : Int), bt572.2))
set_option maxHeartbeats 8000000 in
set_option maxRecDepth 100000 in
theorem impl_CountSolutions.calls (k : Nat) (a0_0 : Int) (A0_1 : Option Addr) (c0_1 : Nat) (l0_1 : List (S39)) (r1 : Int) (r2 : Bool) (w : World) (hr0_1 : Kd.C k39 w A0_1 l0_1.length l0_1) (hc0_1 : l0_1.length ≤ c0_1) (h : impl_CountSolutions.f k a0_0 l0_1 = some (r1, r2)) :
  Calls Try.prog 62 #[.agg #[.int .i64 a0_0, .slice A0_1 l0_1.length c0_1]] w fun e w' => e = .returned (.tuple #[.int .i64 r1, .bool r2]) ∧ Below w.heap.size w w' := by
 have hu30 := Try.underlying30; have HR0_1 := Aside0.mk hr0_1; have HC0_1 := Aside0.mk hc0_1; clear hr0_1 hc0_1
 have HB := Aside0.mk (Below.refl w.heap.size w)
 have H : ((impl_Solutions.f k a0_0 l0_1).bind fun bt572 => (some ((bt572.1.length : Int), bt572.2))) = some (r1, r2) := h
 clear h; replace H := Option.bind_eq_some_iff.mp H; obtain ⟨⟨t572, t575⟩, A20, H⟩ := H
 replace H : (some ((t572.length : Int), t575)) = some (r1, r2) := H
 have A2 := Aside0.mk A20; clear A20; simp only [Option.some.injEq, Prod.mk.injEq] at H; obtain ⟨rfl, rfl⟩ := H
 go_enter Try.func62, Try.ntmps62
 go_wp2_with (first | ((with_reducible refine gate_dst (N := 1) rfl ?_); refine zE 1 #[.int .i64 a0_0, .slice A0_1 l0_1.length c0_1] 30 ?_; intro gb571 hg w3 hbox hb; have BK571 := Aside0.mk (hbox); have GW571 := zg HB hg; have GE571 := GW571; replace HB := zh HB hb; clear hb hbox hg; obtain ⟨_, _, _, _⟩ := zc2 BK571) | ((with_reducible refine gate_callee (f := 18) rfl ?_); refine zG (some 8) Try.func18 #[.agg #[.int .i64 a0_0, .slice A0_1 l0_1.length c0_1]] ?_; (with_reducible refine (impl_Solutions.calls k a0_0 _ _ l0_1 t572 t575 _ ?side1 ?side2 A2.out).mono ?_); (case side1 => repeat (first | exact (Kd.C_below HR0_1.out HB.out) | (with_reducible refine Kd.C_alloc ?_ _) | (with_reducible refine Kd.C_drewN ?_ _) | (with_reducible refine Kd.C_drew ?_))); (case side2 => exact HC0_1.out); rintro e w5 ⟨v573, rfl, ho0, hb⟩; refine ⟨_, rfl, ?_⟩; have HO574 := Aside0.mk (Kd.R_lower ho0 (below_size (zy HB))); replace BK571 := zb BK571 hb; replace HB := zh HB hb; clear hb ho0; obtain ⟨Ao6, co6, eo6⟩ := Kd.R_slice HO574.out; subst eo6))
 go_ret2
 exact ⟨zt, zy HB⟩


/-! ### impl_NeedlessClues: function 19 -/
def impl_NeedlessClues.l0 : Nat → Int → List Int → Int → Int → Int → List (S39) → Option (List Int × Bool)
 | 0, _, _, _, _, _, _ => none
 | k + 1, x4, x6, x18, x19, x577000, x577001 => if x19 < x18 then ((impl_without.f k x577001 x19).bind fun t582 => ((impl_solutions.f k x577000 t582).bind fun t585 => (if (t585.length : Int) = x4 then (if x6.length < 17592186044416 then (impl_NeedlessClues.l0 k x4 (x6 ++ [x19]) x18 (wrap64 (x19 + 1)) x577000 x577001) else (none)) else (impl_NeedlessClues.l0 k x4 x6 x18 (wrap64 (x19 + 1)) x577000 x577001)))) else (some (x6, true))
def impl_NeedlessClues.f (k : Nat) (a0_0 : Int) (l0_1 : List (S39)) : Option (List Int × Bool) := (impl_CountSolutions.f k a0_0 l0_1).bind fun bt577 => (if bt577.2 = true then (impl_NeedlessClues.l0 k bt577.1 (([] : List Int)) (l0_1.length : Int) 0 a0_0 l0_1) else (some (([] : List Int), false)))
def impl_NeedlessClues.T8 : Bool × List (List Nat × List Nat) := (true, [([], []), ([0], [0]), ([], []), ([2], [2]), ([], []), ([3, 4], [3, 4]), ([1, 5, 5], [1, 5]), ([6], [6]), ([], []), ([7, 8], [7, 8])])
def impl_NeedlessClues.B8 : List Nat := [0, 1, 0, 4, 0, 28, 63, 127, 0, 511]
theorem impl_NeedlessClues.tab8 : rtab .any (opsOf Try.f19 8) = impl_NeedlessClues.T8 := by kernel_rfl
theorem impl_NeedlessClues.bits8 : waitsOk impl_NeedlessClues.T8.2 impl_NeedlessClues.B8 = true := by kernel_rfl
set_option maxHeartbeats 8000000 in
set_option maxRecDepth 100000 in
theorem impl_NeedlessClues.calls (k : Nat) (a0_0 : Int) (A0_1 : Option Addr) (c0_1 : Nat) (l0_1 : List (S39)) (r1 : List Int) (r2 : Bool) (w : World) (hr0_1 : Kd.C k39 w A0_1 l0_1.length l0_1) (hc0_1 : l0_1.length ≤ c0_1) (h : impl_NeedlessClues.f k a0_0 l0_1 = some (r1, r2)) :
  Calls Try.prog 19 #[.agg #[.int .i64 a0_0, .slice A0_1 l0_1.length c0_1]] w fun e w' => ∃ v0_ : Value, e = .returned (.tuple #[v0_, .bool r2]) ∧ Kd.R (Kd.int .i64) 3 w' w.heap.size (fun _ => True) v0_ r1 ∧ Below w.heap.size w w' := by
 have hu30 := Try.underlying30; have HR0_1 := Aside0.mk hr0_1; have HC0_1 := Aside0.mk hc0_1; clear hr0_1 hc0_1
 have HB := Aside0.mk (Below.refl w.heap.size w)
 have H : ((impl_CountSolutions.f k a0_0 l0_1).bind fun bt577 => (if bt577.2 = true then (impl_NeedlessClues.l0 k bt577.1 (([] : List Int)) (l0_1.length : Int) 0 a0_0 l0_1) else (some (([] : List Int), false)))) = some (r1, r2) := h
 clear h; replace H := Option.bind_eq_some_iff.mp H; obtain ⟨⟨t577, t578⟩, A20, H⟩ := H
 replace H : (if t578 = true then (impl_NeedlessClues.l0 k t577 (([] : List Int)) (l0_1.length : Int) 0 a0_0 l0_1) else (some (([] : List Int), false))) = some (r1, r2) := H
 have A2 := Aside0.mk A20; clear A20
 by_cases c3 : t578 = true
 ·subst c3
  rw [if_pos rfl] at H
  obtain ⟨y579, hy579⟩ : ∃ y_ : List Int, y_ = (([] : List Int)) := ⟨_, rfl⟩
  replace H : (impl_NeedlessClues.l0 k t577 y579 (l0_1.length : Int) 0 a0_0 l0_1) = some (r1, r2) := by first | (rw [hy579]; with_reducible exact H) | (have H2_ := (Option.bind_some _ _).symm.trans H; rw [hy579]; with_reducible exact H2_) | (have H2_ := (Option.bind_some _ _).symm.trans H; with_reducible exact H2_) | with_reducible exact H | (rw [hy579]; exact H) | exact H
  have Ny579 := Aside0.mk hy579; clear hy579; have H' := Aside0.mk H; clear H
  go_enter Try.func19, Try.ntmps19
  go_wp2_with (first | ((with_reducible refine gate_dst (N := 1) rfl ?_); refine zE 1 #[.int .i64 a0_0, .slice A0_1 l0_1.length c0_1] 30 ?_; intro gb576 hg w4 hbox hb; have BK576 := Aside0.mk (hbox); have GW576 := zg HB hg; have GE576 := GW576; replace HB := zh HB hb; clear hb hbox hg; obtain ⟨_, _, _, _⟩ := zc2 BK576) | ((with_reducible refine gate_callee (f := 62) rfl ?_); refine zG (some 10) Try.func62 #[.agg #[.int .i64 a0_0, .slice A0_1 l0_1.length c0_1]] ?_; (with_reducible refine (impl_CountSolutions.calls k a0_0 _ _ l0_1 t577 true _ ?side1 ?side2 A2.out).mono ?_); (case side1 => repeat (first | exact (Kd.C_below HR0_1.out HB.out) | (with_reducible refine Kd.C_alloc ?_ _) | (with_reducible refine Kd.C_drewN ?_ _) | (with_reducible refine Kd.C_drew ?_))); (case side2 => exact HC0_1.out); rintro e w6 ⟨rfl, hb⟩; refine ⟨_, rfl, ?_⟩; replace BK576 := zb BK576 hb; replace HB := zh HB hb; clear hb) | ((with_reducible refine gate_dst (N := 15) rfl ?_); refine Kd.R_lit (Kd.int .i64) _ 3 ?hg (N := 15) ?hd (xs := ([] : List Int)) (inner := []) (ok := fun _ => True) (okp := fun _ => True) ?hr ?hp (fun _ hk => hk) trivial (Below.refl _ _) (Nat.le_refl _) zO2_9 ?_; (case hd => rfl); (case hg => rfl); (case hr => first | (go_simp; done) | (go_simp; rfl)); (case hp => exact (Reps.none _ _)); intro v580 w7 ho8 hb hg_ hnew_; clear hg_ hnew_; (first | rw [← Ny579.out] at ho8 | (simp only [Int.reduceToNat] at ho8; rw [← Ny579.out] at ho8)); have HO581 := Aside0.mk (Kd.R_lower ho8 (below_size (zy HB))); replace BK576 := zb BK576 hb; replace HB := zh HB hb; clear hb ho8; obtain ⟨_, _, _, _⟩ := zc2 BK576))
  go_loopg [6, 19] k (fun kq v6 v19 w' => ∃ (x6_1 : List Int) (x19_1 : Int), v19 = .int .i64 x19_1 ∧ Aside0 (impl_NeedlessClues.l0 kq t577 x6_1 (l0_1.length : Int) x19_1 a0_0 l0_1 = some (r1, r2)) ∧ Aside0 (kq ≤ k) ∧ Aside0 (Kd.R (Kd.int .i64) 3 w' w.heap.size (fun _ => True) v6 x6_1) ∧ Aside0 (w'.heap[gb576]? = some (.cells #[.int .i64 a0_0, (.slice A0_1 l0_1.length c0_1)] 30 (0, 0))) ∧ Aside0 (Below w.heap.size w w'))
  case atStart => exact ⟨(y579), (0), zu, H', ⟨Nat.le_refl _⟩, zp HO581, zk BK576, ⟨zy HB⟩⟩
  case round =>
   clear H'
   obtain ⟨x6_1, x19_1, rfl, HA, HK1, HO_6, BK576, HB⟩ := hrel
   cases gk with
   | zero => exact absurd HA.out (by simp [impl_NeedlessClues.l0])
   | succ k1 =>
    have H := HA.out; clear HA; simp only [impl_NeedlessClues.l0] at H
    by_cases c10 : x19_1 < (l0_1.length : Int)
    ·rw [if_pos c10] at H
     have c10b0 : decide (x19_1 < (l0_1.length : Int)) = true := decide_eq_true c10; clear c10; replace H := Option.bind_eq_some_iff.mp H; obtain ⟨t582, A110, H⟩ := H; (try dsimp only at H); have A11 := Aside0.mk A110; clear A110; replace H := Option.bind_eq_some_iff.mp H; obtain ⟨t585, A120, H⟩ := H; (try dsimp only at H); have A12 := Aside0.mk A120; clear A120
     by_cases c13 : (t585.length : Int) = t577
     ·rw [if_pos c13] at H
      have c13b0 : ((t585.length : Int) == t577) = true := beq_iff_eq.mpr c13
      have c13b1 : ((t585.length : Int) != t577) = false := bne_eq_false_iff_eq.mpr c13
      clear c13
      by_cases c14 : x6_1.length < 17592186044416
      ·rw [if_pos c14] at H
       have LMc14 := Aside0.mk c14; clear c14
       obtain ⟨y588, hy588⟩ : ∃ y_ : List Int, y_ = (x6_1 ++ [x19_1]) := ⟨_, rfl⟩
       replace H : (impl_NeedlessClues.l0 k1 t577 y588 (l0_1.length : Int) (wrap64 (x19_1 + 1)) a0_0 l0_1) = some (r1, r2) := by first | (rw [hy588]; with_reducible exact H) | (have H2_ := (Option.bind_some _ _).symm.trans H; rw [hy588]; with_reducible exact H2_) | (have H2_ := (Option.bind_some _ _).symm.trans H; with_reducible exact H2_) | with_reducible exact H | (rw [hy588]; exact H) | exact H
       have Ny588 := Aside0.mk hy588; clear hy588; have H' := Aside0.mk H; clear H
       try go_wp2
       replace HO_6 := Aside0.mk (Kd.R_drew HO_6.out); replace BK576 := Aside0.mk (blk_drew BK576.out); replace HB := Aside0.mk (below_drew1 HB.out)
       refine start_ (n := 10) (S := fun w' => w'.cell? ⟨gb576, 0, none⟩ = some (.int .i64 a0_0) ∧ w'.cell? ⟨gb576, 1, none⟩ = some (.slice A0_1 l0_1.length c0_1)) (ds := []) #[false, false, false, false, false, false, false, false, false, false] (by kernel_rfl) rfl rfl ⟨(blk_cell BK576.out 0).trans rfl, (blk_cell BK576.out 1).trans rfl⟩ (fun hHeld => ?_); refine with_tabW impl_NeedlessClues.tab8 impl_NeedlessClues.bits8 (fun HT_ HW_ => ?_)
       generalize wr.drew = w15 at HO_6 BK576 HB hHeld ⊢
       refine zA 0 22 HT_ ?_
       refine zA 2 24 HT_ ?_
       refine zA 4 26 HT_ ?_
       refine zA 8 30 HT_ ?_
       refine zT 1 23 HT_ HW_ hHeld ?_
       refine zT 3 25 HT_ HW_ hHeld ?_
       refine zO 5 (some 27) HT_ (fun K hK => ?_)
       refine goes_ Try.func57 (by kernel_rfl) rfl #[.slice A0_1 l0_1.length c0_1, .int .i64 x19_1] (by rfl) rfl rfl zO2_1 ?_
       with_reducible refine (impl_without.calls k1 (fun k_ => k_ < w.heap.size) _ _ l0_1 x19_1 t582 _ ?side1 A11.out).mono ?_
       (case side1 => exact Kd.V_mk HC0_1.out (Kd.F_below (Kd.C_F k39_heap HR0_1.out) (zy HB)))
       rintro e w16 ⟨v583, rfl, ho0, hb⟩
       refine ⟨_, rfl, ?_⟩
       have HO584 := Aside0.mk (Kd.R_lower (Kd.R_mono (ok' := fun k_ => True) ho0 (fun _ hk_ => trivial)) (below_size (zy HB)))
       replace HO_6 := zo HO_6 hb; replace BK576 := zb BK576 hb; replace HB := zh HB hb
       (try clear hb)
       (try clear hb2)
       (try clear hk)
       (try clear hi)
       (try clear ho0)
       obtain ⟨Ao17, co17, eo17⟩ := Kd.R_slice HO584.out
       (first | subst eo17 | (injection eo17 with f1_ f2_ f3_; have f4_ := f1_.symm; have f5_ := f3_.symm; clear f1_ f2_ f3_; subst f4_; subst f5_))
       refine hK.out _ _ ⟨(blk_cell BK576.out 0).trans rfl, (blk_cell BK576.out 1).trans rfl⟩ (fun hHeld => ?_)
       clear hK K
       refine zN 27 ?_
       refine zO 6 (some 28) HT_ (fun K hK => ?_)
       refine goes_ Try.func61 (by kernel_rfl) rfl #[.int .i64 a0_0, .slice Ao17 t582.length co17] (by rfl) rfl rfl zO2_1 ?_
       with_reducible refine (impl_solutions.calls k1 a0_0 _ _ t582 t585 _ ?side1 ?side2 A12.out).mono ?_
       (case side1 => repeat (first | exact (Kd.R_reads' HO584.out).2.2 | (with_reducible refine Kd.C_alloc ?_ _) | (with_reducible refine Kd.C_drewN ?_ _) | (with_reducible refine Kd.C_drew ?_)))
       (case side2 => exact (Kd.R_reads' HO584.out).2.1)
       rintro e w18 ⟨v586, rfl, ho0, hb⟩
       refine ⟨_, rfl, ?_⟩
       have HO587 := Aside0.mk (Kd.R_lower ho0 (below_size (zy HB)))
       replace HO_6 := zo HO_6 hb; replace HO584 := zo HO584 hb; replace BK576 := zb BK576 hb; replace HB := zh HB hb
       (try clear hb)
       (try clear hb2)
       (try clear hk)
       (try clear hi)
       (try clear ho0)
       obtain ⟨Ao19, co19, eo19⟩ := Kd.R_slice HO587.out
       (first | subst eo19 | (injection eo19 with f1_ f2_ f3_; have f4_ := f1_.symm; have f5_ := f3_.symm; clear f1_ f2_ f3_; subst f4_; subst f5_))
       refine hK.out _ _ ⟨(blk_cell BK576.out 0).trans rfl, (blk_cell BK576.out 1).trans rfl⟩ (fun hHeld => ?_)
       clear hK K
       refine zN 28 ?_
       refine zA 7 29 HT_ ?_
       refine zA 9 31 HT_ ?_
       refine done_ (done_of HT_.out (by kernel_rfl)) ?_
       try go_wp2_with (first | ((with_reducible refine gate_builtin (b := .append) (xs := #[.tmp 32, .tmp 34]) rfl ?_); at_builtin; refine Kd.R_append (Kd.int .i64) (w0 := w) w.heap.size rfl (.tmp 32) (.tmp 34) 47 3 (.int .i64 0) 8 rfl Try.underlying47 info3 rfl (by decide) zO2_8 u6 x6_1 x19_1 [.int .i64 x19_1] (fun _ => True) (fun _ => False) rfl rfl ?aP (fun _ hk => hk.elim) ?aF ?aO ?aB ?aS ?aL ?_; (case aP => exact rfl); (case aB => exact (zy HB)); (case aF => exact (fun _ _ => trivial)); (case aO => exact (zs HO_6)); (case aS => exact (below_size (zy HB))); (case aL => have := LMc14.out; omega); intro v589 w20 ho hb hg hat; rw [← Ny588.out] at ho; have n0_ := Aside0.mk (blk_grown (zq BK576) hg (Kd.R_ne HO_6.out BK576.out (by decide))); have n1_ := Aside0.mk (Kd.R_over' (zs HO584) (Kd.R_typed (zs HO_6)) (by decide) hg); have n2_ := Aside0.mk (Kd.R_over' (zs HO587) (Kd.R_typed (zs HO_6)) (by decide) hg); have HO590 := Aside0.mk (ho); replace HB := Aside0.mk hb; clear HO_6; clear BK576; have BK576 := n0_; clear n0_; clear HO584; have HO584 := n1_; clear n1_; clear HO587; have HO587 := n2_; clear n2_; clear ho hb hg hat))
       go_roundg k1
       case measure => have := HK1.out; omega
       case rel => exact ⟨(y588), (wrap64 (x19_1 + 1)), zu, H', ⟨by have := HK1.out; omega⟩, zp HO590, zk BK576, ⟨zy HB⟩⟩
      ·rw [if_neg c14] at H
       exact absurd H zO2_9
     ·rw [if_neg c13] at H
      have c13b0 : ((t585.length : Int) == t577) = false := beq_eq_false_iff_ne.mpr c13
      have c13b1 : ((t585.length : Int) != t577) = true := bne_iff_ne.mpr c13
      have H' := Aside0.mk H; clear H
      try go_wp2
      replace HO_6 := Aside0.mk (Kd.R_drew HO_6.out); replace BK576 := Aside0.mk (blk_drew BK576.out); replace HB := Aside0.mk (below_drew1 HB.out)
      refine start_ (n := 10) (S := fun w' => w'.cell? ⟨gb576, 0, none⟩ = some (.int .i64 a0_0) ∧ w'.cell? ⟨gb576, 1, none⟩ = some (.slice A0_1 l0_1.length c0_1)) (ds := []) #[false, false, false, false, false, false, false, false, false, false] (by kernel_rfl) rfl rfl ⟨(blk_cell BK576.out 0).trans rfl, (blk_cell BK576.out 1).trans rfl⟩ (fun hHeld => ?_); refine with_tabW impl_NeedlessClues.tab8 impl_NeedlessClues.bits8 (fun HT_ HW_ => ?_)
      generalize wr.drew = w21 at HO_6 BK576 HB hHeld ⊢
      refine zA 0 22 HT_ ?_
      refine zA 2 24 HT_ ?_
      refine zA 4 26 HT_ ?_
      refine zA 8 30 HT_ ?_
      refine zT 1 23 HT_ HW_ hHeld ?_
      refine zT 3 25 HT_ HW_ hHeld ?_
      refine zO 5 (some 27) HT_ (fun K hK => ?_)
      refine goes_ Try.func57 (by kernel_rfl) rfl #[.slice A0_1 l0_1.length c0_1, .int .i64 x19_1] (by rfl) rfl rfl zO2_1 ?_
      with_reducible refine (impl_without.calls k1 (fun k_ => k_ < w.heap.size) _ _ l0_1 x19_1 t582 _ ?side1 A11.out).mono ?_
      (case side1 => exact Kd.V_mk HC0_1.out (Kd.F_below (Kd.C_F k39_heap HR0_1.out) (zy HB)))
      rintro e w22 ⟨v583, rfl, ho0, hb⟩
      refine ⟨_, rfl, ?_⟩
      have HO584 := Aside0.mk (Kd.R_lower (Kd.R_mono (ok' := fun k_ => True) ho0 (fun _ hk_ => trivial)) (below_size (zy HB)))
      replace HO_6 := zo HO_6 hb; replace BK576 := zb BK576 hb; replace HB := zh HB hb
      (try clear hb)
      (try clear hb2)
      (try clear hk)
      (try clear hi)
      (try clear ho0)
      obtain ⟨Ao23, co23, eo23⟩ := Kd.R_slice HO584.out
      (first | subst eo23 | (injection eo23 with f1_ f2_ f3_; have f4_ := f1_.symm; have f5_ := f3_.symm; clear f1_ f2_ f3_; subst f4_; subst f5_))
      refine hK.out _ _ ⟨(blk_cell BK576.out 0).trans rfl, (blk_cell BK576.out 1).trans rfl⟩ (fun hHeld => ?_)
      clear hK K
      refine zN 27 ?_
      refine zO 6 (some 28) HT_ (fun K hK => ?_)
      refine goes_ Try.func61 (by kernel_rfl) rfl #[.int .i64 a0_0, .slice Ao23 t582.length co23] (by rfl) rfl rfl zO2_1 ?_
      with_reducible refine (impl_solutions.calls k1 a0_0 _ _ t582 t585 _ ?side1 ?side2 A12.out).mono ?_
      (case side1 => repeat (first | exact (Kd.R_reads' HO584.out).2.2 | (with_reducible refine Kd.C_alloc ?_ _) | (with_reducible refine Kd.C_drewN ?_ _) | (with_reducible refine Kd.C_drew ?_)))
      (case side2 => exact (Kd.R_reads' HO584.out).2.1)
      rintro e w24 ⟨v586, rfl, ho0, hb⟩
      refine ⟨_, rfl, ?_⟩
      have HO587 := Aside0.mk (Kd.R_lower ho0 (below_size (zy HB)))
      replace HO_6 := zo HO_6 hb; replace HO584 := zo HO584 hb; replace BK576 := zb BK576 hb; replace HB := zh HB hb
      (try clear hb)
      (try clear hb2)
      (try clear hk)
      (try clear hi)
      (try clear ho0)
      obtain ⟨Ao25, co25, eo25⟩ := Kd.R_slice HO587.out
      (first | subst eo25 | (injection eo25 with f1_ f2_ f3_; have f4_ := f1_.symm; have f5_ := f3_.symm; clear f1_ f2_ f3_; subst f4_; subst f5_))
      refine hK.out _ _ ⟨(blk_cell BK576.out 0).trans rfl, (blk_cell BK576.out 1).trans rfl⟩ (fun hHeld => ?_)
      clear hK K
      refine zN 28 ?_
      refine zA 7 29 HT_ ?_
      refine zA 9 31 HT_ ?_
      refine done_ (done_of HT_.out (by kernel_rfl)) ?_
      try go_wp2
      go_roundg k1
      case measure => have := HK1.out; omega
      case rel => exact ⟨(x6_1), (wrap64 (x19_1 + 1)), zu, H', ⟨by have := HK1.out; omega⟩, zp HO_6, zk BK576, ⟨zy HB⟩⟩
    ·rw [if_neg c10] at H
     have c10b0 : decide (x19_1 < (l0_1.length : Int)) = false := decide_eq_false c10; clear c10; simp only [Option.some.injEq, Prod.mk.injEq] at H; obtain ⟨rfl, rfl⟩ := H
     go_wp2
     go_ret2
     exact ⟨_, zt, by (with_reducible repeat (first | apply Kd.R_alloc | apply Kd.R_drewN | apply Kd.R_drew)); exact HO_6.out, zy HB⟩
 ·replace c3 := Bool.eq_false_iff.mpr c3
  subst c3; rw [if_neg (show ¬ (false = true) by decide)] at H; simp only [Option.some.injEq, Prod.mk.injEq] at H; obtain ⟨rfl, rfl⟩ := H
  go_enter Try.func19, Try.ntmps19
  go_wp2_with (first | ((with_reducible refine gate_dst (N := 1) rfl ?_); refine zE 1 #[.int .i64 a0_0, .slice A0_1 l0_1.length c0_1] 30 ?_; intro gb576 hg w26 hbox hb; have BK576 := Aside0.mk (hbox); have GW576 := zg HB hg; have GE576 := GW576; replace HB := zh HB hb; clear hb hbox hg; obtain ⟨_, _, _, _⟩ := zc2 BK576) | ((with_reducible refine gate_callee (f := 62) rfl ?_); refine zG (some 10) Try.func62 #[.agg #[.int .i64 a0_0, .slice A0_1 l0_1.length c0_1]] ?_; (with_reducible refine (impl_CountSolutions.calls k a0_0 _ _ l0_1 t577 false _ ?side1 ?side2 A2.out).mono ?_); (case side1 => repeat (first | exact (Kd.C_below HR0_1.out HB.out) | (with_reducible refine Kd.C_alloc ?_ _) | (with_reducible refine Kd.C_drewN ?_ _) | (with_reducible refine Kd.C_drew ?_))); (case side2 => exact HC0_1.out); rintro e w28 ⟨rfl, hb⟩; refine ⟨_, rfl, ?_⟩; replace BK576 := zb BK576 hb; replace HB := zh HB hb; clear hb))
  go_ret2
  exact ⟨_, zt, by first | exact Kd.R_nil _ _ _ _ _ | exact Kd.N_nil _ _ _ _ _ | exact Kd.V_nil _ _ _ _ _ | exact Kd.Q_nil _ _ _ _ _ | exact Kd.S_nil _ _ _ _ _, zy HB⟩


theorem eqA25 (d : Nat) (w : World) (x0 y0 : Int) (x1 y1 : Int) (x2 y2 : Int) :
  (Op.equalIn (d + 2) 25 (.agg #[.int .i64 x0, .int .i64 x1, .int .i64 x2]) (.agg #[.int .i64 y0, .int .i64 y1, .int .i64 y2])).run Try.prog w = .ok (x0 == y0 && (x1 == y1 && (x2 == y2))) w := by
 refine eqA_of Try.underlying25 (by kernel_rfl) ?_
 refine eqf_cons (by rfl) (by go_simp; rfl) (by go_simp; rfl) (by go_simp) ?_
 refine eqf_cons (by rfl) (by go_simp; rfl) (by go_simp; rfl) (by go_simp) ?_
 exact eqf_last (by rfl) (by go_simp; rfl) (by go_simp; rfl) (by go_simp)

attribute [local go_sem high] eqA25
/-! ### laws_jLadders: function 20 -/
def laws_jLadders.l0 : Nat → List (S25) → List (S25) → Int → Int → Option (Bool)
 | 0, _, _, _, _ => none
 | k + 1, x0, x1, x12, x13 => if x13 < x12 then (if 0 ≤ x13 then (if x13 < (x0.length : Int) then (if x13 < (x1.length : Int) then (if (!(((rd_T25 x0 x13).f0) == ((rd_T25 x1 x13).f0)) || (!(((rd_T25 x0 x13).f1) == ((rd_T25 x1 x13).f1)) || (!(((rd_T25 x0 x13).f2) == ((rd_T25 x1 x13).f2))))) = true then (some false) else (laws_jLadders.l0 k x0 x1 x12 (wrap64 (x13 + 1)))) else (none)) else (none)) else (none)) else (some true)
def laws_jLadders.f (k : Nat) (l0 : List (S25)) (l1 : List (S25)) : Option (Bool) := if (l0.length : Int) = (l1.length : Int) then (laws_jLadders.l0 k l0 l1 (l0.length : Int) 0) else (some false)
set_option maxHeartbeats 8000000 in
set_option maxRecDepth 100000 in
theorem laws_jLadders.calls (k : Nat) (A0 : Option Addr) (c0 : Nat) (l0 : List (S25)) (A1 : Option Addr) (c1 : Nat) (l1 : List (S25)) (r : Bool) (w : World) (hr0 : Kd.C k25 w A0 l0.length l0) (hc0 : l0.length ≤ c0) (hr1 : Kd.C k25 w A1 l1.length l1) (hc1 : l1.length ≤ c1) (h : laws_jLadders.f k l0 l1 = some r) :
  Calls Try.prog 20 #[.slice A0 l0.length c0, .slice A1 l1.length c1] w fun e w' => e = .returned (.bool r) ∧ Drawn0 w w' := by
 have hu25 := Try.underlying25; have HR0 := Aside0.mk hr0; have HC0 := Aside0.mk hc0; clear hr0 hc0; have HR1 := Aside0.mk hr1; have HC1 := Aside0.mk hc1; clear hr1 hc1
 have H : (if (l0.length : Int) = (l1.length : Int) then (laws_jLadders.l0 k l0 l1 (l0.length : Int) 0) else (some false)) = some r := h
 clear h
 by_cases c3 : (l0.length : Int) = (l1.length : Int)
 ·rw [if_pos c3] at H
  have c3b0 : ((l0.length : Int) == (l1.length : Int)) = true := beq_iff_eq.mpr c3
  have c3b1 : ((l0.length : Int) != (l1.length : Int)) = false := bne_eq_false_iff_eq.mpr c3
  have c3b2 : (l0.length == l1.length) = true := by first | simpa using c3 | (simp at c3 ⊢; omega)
  clear c3; have H' := Aside0.mk H; clear H
  go_enter Try.func20, Try.ntmps20
  go_wp2
  repeat (go_quiet (fail); try go_wp2)
  go_loopg [13] k (fun kq v13 w' => ∃ (x13_1 : Int), v13 = .int .i64 x13_1 ∧ Aside0 (laws_jLadders.l0 kq l0 l1 (l0.length : Int) x13_1 = some r) ∧ Aside0 (kq ≤ k) ∧ Drawn0 w w')
  case atStart => exact ⟨(0), zu, H', ⟨Nat.le_refl _⟩, by repeat (first | exact Drawn0.refl _ | apply Drawn0.step)⟩
  case round =>
   clear H'
   obtain ⟨x13_1, rfl, HA, HK1, ⟨m1, rfl⟩⟩ := hrel
   cases gk with
   | zero => exact absurd HA.out (by simp [laws_jLadders.l0])
   | succ k1 =>
    have H := HA.out; clear HA; simp only [laws_jLadders.l0] at H
    by_cases c4 : x13_1 < (l0.length : Int)
    ·rw [if_pos c4] at H
     have c4b0 : decide (x13_1 < (l0.length : Int)) = true := decide_eq_true c4; clear c4
     by_cases c5 : 0 ≤ x13_1
     ·rw [if_pos c5] at H
      have c5b0 : decide (0 ≤ x13_1) = true := decide_eq_true c5; clear c5
      by_cases c6 : x13_1 < (l0.length : Int)
      ·rw [if_pos c6] at H
       have c6b0 : decide (x13_1 < (l0.length : Int)) = true := decide_eq_true c6; clear c6
       by_cases c7 : x13_1 < (l1.length : Int)
       ·rw [if_pos c7] at H
        have c7b0 : decide (x13_1 < (l1.length : Int)) = true := decide_eq_true c7; clear c7
        by_cases c8 : (!(((rd_T25 l0 x13_1).f0) == ((rd_T25 l1 x13_1).f0)) || (!(((rd_T25 l0 x13_1).f1) == ((rd_T25 l1 x13_1).f1)) || (!(((rd_T25 l0 x13_1).f2) == ((rd_T25 l1 x13_1).f2))))) = true
        ·rw [if_pos c8] at H
         have c8b0 : (!(((rd_T25 l0 x13_1).f0) == ((rd_T25 l1 x13_1).f0)) || (!(((rd_T25 l0 x13_1).f1) == ((rd_T25 l1 x13_1).f1)) || (!(((rd_T25 l0 x13_1).f2) == ((rd_T25 l1 x13_1).f2))))) = true := c8
         clear c8
         obtain rfl := Option.some.inj H
         have p591 : 0 ≤ (x13_1 : Int) := of_decide_eq_true zO2_7
         have q591 : x13_1 < (l0.length : Int) := of_decide_eq_true zO2_7
         obtain ⟨ad591, e591, hx591_0, hx591_1, hx591_2⟩ := at_T25 HR0.out x13_1 p591 q591
         cases e591; replace p591 := eq_true p591; replace q591 := eq_true q591
         have p592 : 0 ≤ (x13_1 : Int) := of_decide_eq_true zO2_7
         have q592 : x13_1 < (l1.length : Int) := of_decide_eq_true zO2_7
         obtain ⟨ad592, e592, hx592_0, hx592_1, hx592_2⟩ := at_T25 HR1.out x13_1 p592 q592
         cases e592; replace p592 := eq_true p592; replace q592 := eq_true q592
         go_wp2
         repeat (go_quiet (fail); try go_wp2)
         go_ret
         exact ⟨by first | rfl | (simp; done) | (simp [*]; done), by repeat (first | exact Drawn0.refl _ | apply Drawn0.step)⟩
        ·rw [if_neg c8] at H
         have c8b0 : (!(((rd_T25 l0 x13_1).f0) == ((rd_T25 l1 x13_1).f0)) || (!(((rd_T25 l0 x13_1).f1) == ((rd_T25 l1 x13_1).f1)) || (!(((rd_T25 l0 x13_1).f2) == ((rd_T25 l1 x13_1).f2))))) = false := by simpa using c8
         clear c8; have H' := Aside0.mk H; clear H
         have p591 : 0 ≤ (x13_1 : Int) := of_decide_eq_true zO2_7
         have q591 : x13_1 < (l0.length : Int) := of_decide_eq_true zO2_7
         obtain ⟨ad591, e591, hx591_0, hx591_1, hx591_2⟩ := at_T25 HR0.out x13_1 p591 q591
         cases e591; replace p591 := eq_true p591; replace q591 := eq_true q591
         have p592 : 0 ≤ (x13_1 : Int) := of_decide_eq_true zO2_7
         have q592 : x13_1 < (l1.length : Int) := of_decide_eq_true zO2_7
         obtain ⟨ad592, e592, hx592_0, hx592_1, hx592_2⟩ := at_T25 HR1.out x13_1 p592 q592
         cases e592; replace p592 := eq_true p592; replace q592 := eq_true q592
         go_wp2
         repeat (go_quiet (fail); try go_wp2)
         go_roundg k1
         case measure => have := HK1.out; omega
         case rel => exact ⟨(wrap64 (x13_1 + 1)), zu, H', ⟨by have := HK1.out; omega⟩, by repeat (first | exact Drawn0.refl _ | apply Drawn0.step)⟩
       ·rw [if_neg c7] at H
        exact absurd H zO2_9
      ·rw [if_neg c6] at H
       exact absurd H zO2_9
     ·rw [if_neg c5] at H
      exact absurd H zO2_9
    ·rw [if_neg c4] at H
     have c4b0 : decide (x13_1 < (l0.length : Int)) = false := decide_eq_false c4; clear c4
     obtain rfl := Option.some.inj H
     go_wp2
     repeat (go_quiet (fail); try go_wp2)
     go_ret
     exact ⟨by first | rfl | (simp; done) | (simp [*]; done), by repeat (first | exact Drawn0.refl _ | apply Drawn0.step)⟩
 ·rw [if_neg c3] at H
  have c3b0 : ((l0.length : Int) == (l1.length : Int)) = false := beq_eq_false_iff_ne.mpr c3
  have c3b1 : ((l0.length : Int) != (l1.length : Int)) = true := bne_iff_ne.mpr c3
  have c3b2 : (l0.length == l1.length) = false := by first | simpa using c3 | (simp at c3 ⊢; omega)
  obtain rfl := Option.some.inj H
  go_enter Try.func20, Try.ntmps20
  go_wp2
  repeat (go_quiet (fail); try go_wp2)
  go_ret
  exact ⟨by first | rfl | (simp; done) | (simp [*]; done), by repeat (first | exact Drawn0.refl _ | apply Drawn0.step)⟩


/-! ### spec_DrawAddClue: function 21 -/
def spec_DrawAddClue.f (k : Nat) (l0 : List Int) : Option (Int × (List (S39)) × Int × Int × Int) := (spec_l1Cur_puzzle.f k l0 0 0).bind fun bt596 => ((spec_l1Cur_clue.f k l0 bt596.2.2.1 bt596.2.2.2).bind fun bt602 => (some (bt596.1, bt596.2.1, bt602.1, bt602.2.1, bt602.2.2.1)))
set_option maxHeartbeats 8000000 in
set_option maxRecDepth 100000 in
theorem spec_DrawAddClue.calls (k : Nat) (A0 : Option Addr) (c0 : Nat) (l0 : List Int) (r1 : Int) (r2 : List (S39)) (r3 : Int) (r4 : Int) (r5 : Int) (w : World) (hr0 : Kd.C (Kd.int .u8) w A0 l0.length l0) (hc0 : l0.length ≤ c0) (h : spec_DrawAddClue.f k l0 = some (r1, r2, r3, r4, r5)) :
  Calls Try.prog 21 #[.slice A0 l0.length c0] w fun e w' => ∃ v1_ : Value, e = .returned (.tuple #[.agg #[.int .i64 r1, v1_], .agg #[.int .i64 r3, .int .i64 r4, .int .i64 r5]]) ∧ Kd.R k39 39 w' w.heap.size (fun _ => True) v1_ r2 ∧ Below w.heap.size w w' := by
 have hu30 := Try.underlying30; have hu39 := Try.underlying39; have hu65 := Try.underlying65; have HR0 := Aside0.mk hr0; have HC0 := Aside0.mk hc0; clear hr0 hc0
 have HB := Aside0.mk (Below.refl w.heap.size w)
 have H : ((spec_l1Cur_puzzle.f k l0 0 0).bind fun bt596 => ((spec_l1Cur_clue.f k l0 bt596.2.2.1 bt596.2.2.2).bind fun bt602 => (some (bt596.1, bt596.2.1, bt602.1, bt602.2.1, bt602.2.2.1)))) = some (r1, r2, r3, r4, r5) := h
 clear h; replace H := Option.bind_eq_some_iff.mp H; obtain ⟨⟨t596, t597, t600, t601⟩, A20, H⟩ := H
 replace H : ((spec_l1Cur_clue.f k l0 t600 t601).bind fun bt602 => (some (t596, t597, bt602.1, bt602.2.1, bt602.2.2.1))) = some (r1, r2, r3, r4, r5) := H
 have A2 := Aside0.mk A20; clear A20; replace H := Option.bind_eq_some_iff.mp H; obtain ⟨⟨t602, t603, t604, t605, t606⟩, A30, H⟩ := H
 replace H : (some (t596, t597, t602, t603, t604)) = some (r1, r2, r3, r4, r5) := H
 have A3 := Aside0.mk A30; clear A30; simp only [Option.some.injEq, Prod.mk.injEq] at H; obtain ⟨rfl, rfl, rfl, rfl, rfl⟩ := H
 go_enter Try.func21, Try.ntmps21
 go_wp2_with (first | ((with_reducible refine gate_dst (N := 2) rfl ?_); refine zE 2 #[.int .i64 0, .slice none 0 0] 30 ?_; intro gb593 hg w4 hbox hb; have BK593 := Aside0.mk (hbox); have GW593 := zg HB hg; have GE593 := GW593; replace HB := zh HB hb; clear hb hbox hg) | ((with_reducible refine gate_dst (N := 3) rfl ?_); refine zE 3 #[.int .i64 0, .int .i64 0, .int .i64 0] 39 ?_; intro gb594 hg w5 hbox hb; have BK594 := Aside0.mk (hbox); have GW594 := zg HB hg; have GE594 := GW594; have NB593_594 := zl BK593 hg; have NB594_593 := zr BK593 hg; replace BK593 := zb BK593 hb; replace HB := zh HB hb; clear hb hbox hg) | ((with_reducible refine gate_dst (N := 7) rfl ?_); refine zE 7 #[.slice A0 l0.length c0, .int .i64 0, .int .u64 0] 65 ?_; intro gb595 hg w6 hbox hb; have HI595 := Aside0.mk ((show IsS65 w _ gb595 l0 0 0 from ⟨_, _, hbox, (by rw [hg]; exact (below_size (zy HB)) : w.heap.size ≤ gb595), HR0.out⟩)); have GW595 := zg HB hg; have GE595 := GW595; have NB593_595 := zl BK593 hg; have NB595_593 := zr BK593 hg; have NB594_595 := zl BK594 hg; have NB595_594 := zr BK594 hg; replace BK593 := zb BK593 hb; replace BK594 := zb BK594 hb; replace HB := zh HB hb; clear hb hbox hg) | ((with_reducible refine gate_callee (f := 54) rfl ?_); refine zG (some 9) Try.func54 #[.pointer (some ⟨gb595, 0, none⟩)] ?_; (with_reducible refine (spec_l1Cur_puzzle.calls k gb595 l0 0 0 t596 t597 t600 t601 w _ ?side1 ?side2 A2.out).mono ?_); (case side1 => exact zI65 HI595); (case side2 => exact zY65 HB); rintro e w7 ⟨v598, rfl, ho0, hi, hb, hk⟩; refine ⟨_, rfl, ?_⟩; have HO599 := Aside0.mk (Kd.R_lower (Kd.R_newB ho0 (zq BK594)) (below_size (zY65 HB))); replace BK593 := zKB BK593 hk; replace BK594 := zKB BK594 hk; replace HB := Aside0.mk hb; replace HI595 := Aside0.mk hi; clear hb hk hi ho0) | ((with_reducible refine gate_callee (f := 63) rfl ?_); refine zG (some 11) Try.func63 #[.pointer (some ⟨gb595, 0, none⟩)] ?_; (with_reducible refine (spec_l1Cur_clue.calls k gb595 l0 t600 t601 t602 t603 t604 t605 t606 w _ ?side1 ?side2 A3.out).mono ?_); (case side1 => exact zI65 HI595); (case side2 => exact zY65 HB); rintro e w8 ⟨rfl, hi, hb, hk⟩; refine ⟨_, rfl, ?_⟩; have n2_ := Aside0.mk (Kd.R_mono (Kd.R_keep (IsS65.apart (show IsS65 w _ gb595 l0 t600 t601 from (zI65 HI595)) (zs HO599) (by decide)) hk (fun _ h => h.2)) (fun _ h => h.1)); replace BK593 := zKB BK593 hk; replace BK594 := zKB BK594 hk; replace HB := Aside0.mk hb; replace HI595 := Aside0.mk hi; clear HO599; have HO599 := n2_; clear n2_; clear hb hk hi; have hnb9 := NB593_594.out; have hnc9 := NB594_593.out; have hnb10 := NB593_595.out; have hnc10 := NB595_593.out; obtain ⟨_, _, _, _⟩ := zc2 BK593; obtain ⟨Ao12, co12, eo12⟩ := Kd.R_slice HO599.out; subst eo12; have hnb13 := NB594_595.out; have hnc13 := NB595_594.out; obtain ⟨_, _, _, _, _, _⟩ := zc3 BK594))
 refine bodyPost_ret (results_cc rfl _ _ gb593 gb594 30 39 #[.int .i64 t596, .slice Ao12 t597.length co12] #[.int .i64 t602, .int .i64 t603, .int .i64 t604] (0, 0) (0, 0) _ _ rfl (zw BK593) Try.underlying30 rfl (by kernel_rfl) rfl (zw BK594) Try.underlying39 rfl (by kernel_rfl)) rfl ?_
 exact ⟨_, zt, by (with_reducible repeat (first | apply Kd.R_alloc | apply Kd.R_drewN | apply Kd.R_drew)); exact Kd.R_mono (Kd.R_far (p := ⟨gb594, 2, none⟩) (Kd.R_far (p := ⟨gb594, 1, none⟩) (Kd.R_far (p := ⟨gb594, 0, none⟩) (Kd.R_far (p := ⟨gb593, 1, none⟩) (Kd.R_far (p := ⟨gb593, 0, none⟩) (Kd.R_mono (Kd.R_types HO599.out BK593.out (by decide)) (fun k_ hk => (⟨hk, hk.1.2⟩ : _ ∧ k_ ≠ gb594))) (fun _ hk => hk.1.2) (.int .i64 t596)) (fun _ hk => hk.1.2) (.slice Ao12 t597.length co12)) (fun _ hk => hk.2) (.int .i64 t602)) (fun _ hk => hk.2) (.int .i64 t603)) (fun _ hk => hk.2) (.int .i64 t604)) (fun _ hk => trivial), zY65 HB⟩


/-! ### impl_AddClue: function 22 -/
def impl_AddClue.f (k : Nat) (a0_0 : Int) (l0_1 : List (S39)) (a1_0 : Int) (a1_1 : Int) (a1_2 : Int) : Option (Int × (List (S39)) × Bool) := (impl_IsPuzzle.f k a0_0 l0_1).bind fun t610 => (if t610 = true then ((impl_isClue.f k a1_0 a1_1 a1_2).bind fun t611 => (if t611 = true then (if (l0_1.length : Int) = 6 then (some (0, ([] : List (S39)), false)) else ((impl_Clue_56.f l0_1).bind fun t612 => ((some (([(⟨a1_0, a1_1, a1_2⟩ : S39)] : List (S39)) : List (S39))).bind fun y615 => (if t612.length + y615.length < 5864062014805 then (some (a0_0, (t612 ++ y615), true)) else (none))))) else (some (0, ([] : List (S39)), false)))) else (some (0, ([] : List (S39)), false)))
def impl_AddClue.T3 : Bool × List (List Nat × List Nat) := (true, [([], []), ([0], [0]), ([], []), ([2], [2]), ([3], [3]), ([], []), ([5], [5]), ([4, 6, 4], [4, 6]), ([1, 7], [1, 7]), ([8, 7, 0, 1, 2, 3, 4, 5, 6, 7, 8], [8]), ([9, 0, 1, 2, 3, 4, 5, 6, 7, 8, 9], [])])
def impl_AddClue.B3 : List Nat := [0, 1, 0, 4, 12, 0, 32, 124, 255, 511, 1023]
theorem impl_AddClue.tab3 : rtab .any (opsOf Try.f22 3) = impl_AddClue.T3 := by kernel_rfl
theorem impl_AddClue.bits3 : waitsOk impl_AddClue.T3.2 impl_AddClue.B3 = true := by kernel_rfl
set_option maxHeartbeats 8000000 in
set_option maxRecDepth 100000 in
theorem impl_AddClue.calls (k : Nat) (a0_0 : Int) (A0_1 : Option Addr) (c0_1 : Nat) (l0_1 : List (S39)) (a1_0 : Int) (a1_1 : Int) (a1_2 : Int) (r1 : Int) (r2 : List (S39)) (r3 : Bool) (w : World) (hr0_1 : Kd.C k39 w A0_1 l0_1.length l0_1) (hc0_1 : l0_1.length ≤ c0_1) (h : impl_AddClue.f k a0_0 l0_1 a1_0 a1_1 a1_2 = some (r1, r2, r3)) :
  Calls Try.prog 22 #[.agg #[.int .i64 a0_0, .slice A0_1 l0_1.length c0_1], .agg #[.int .i64 a1_0, .int .i64 a1_1, .int .i64 a1_2]] w fun e w' => ∃ v1_ : Value, e = .returned (.tuple #[.agg #[.int .i64 r1, v1_], .bool r3]) ∧ Kd.R k39 39 w' w.heap.size (fun _ => True) v1_ r2 ∧ Below w.heap.size w w' := by
 have hu30 := Try.underlying30; have hu39 := Try.underlying39; have HR0_1 := Aside0.mk hr0_1; have HC0_1 := Aside0.mk hc0_1; clear hr0_1 hc0_1
 have HB := Aside0.mk (Below.refl w.heap.size w)
 have H : ((impl_IsPuzzle.f k a0_0 l0_1).bind fun t610 => (if t610 = true then ((impl_isClue.f k a1_0 a1_1 a1_2).bind fun t611 => (if t611 = true then (if (l0_1.length : Int) = 6 then (some (0, ([] : List (S39)), false)) else ((impl_Clue_56.f l0_1).bind fun t612 => ((some (([(⟨a1_0, a1_1, a1_2⟩ : S39)] : List (S39)) : List (S39))).bind fun y615 => (if t612.length + y615.length < 5864062014805 then (some (a0_0, (t612 ++ y615), true)) else (none))))) else (some (0, ([] : List (S39)), false)))) else (some (0, ([] : List (S39)), false)))) = some (r1, r2, r3) := h
 clear h; replace H := Option.bind_eq_some_iff.mp H; obtain ⟨t610, A30, H⟩ := H; (try dsimp only at H); have A3 := Aside0.mk A30; clear A30
 by_cases c4 : t610 = true
 ·subst c4
  rw [if_pos rfl] at H; replace H := Option.bind_eq_some_iff.mp H; obtain ⟨t611, A50, H⟩ := H; (try dsimp only at H); have A5 := Aside0.mk A50; clear A50
  by_cases c6 : t611 = true
  ·subst c6
   rw [if_pos rfl] at H
   by_cases c7 : (l0_1.length : Int) = 6
   ·rw [if_pos c7] at H
    have c7b0 : ((l0_1.length : Int) == 6) = true := beq_iff_eq.mpr c7
    have c7b1 : ((l0_1.length : Int) != 6) = false := bne_eq_false_iff_eq.mpr c7
    clear c7; simp only [Option.some.injEq, Prod.mk.injEq] at H; obtain ⟨rfl, rfl, rfl⟩ := H
    go_enter Try.func22, Try.ntmps22
    go_wp2_with (first | ((with_reducible refine gate_dst (N := 2) rfl ?_); (try (refine gate_guard (by rfl) ?_; dsimp only)); refine zE 2 #[.int .i64 a0_0, .slice A0_1 l0_1.length c0_1] 30 ?_; intro gb607 hg w8 hbox hb; have BK607 := Aside0.mk (hbox); have GW607 := zg HB hg; have GE607 := GW607; replace HB := zh HB hb; clear hb hbox hg) | ((with_reducible refine gate_dst (N := 3) rfl ?_); (try (refine gate_guard (by rfl) ?_; dsimp only)); refine zE 3 #[.int .i64 a1_0, .int .i64 a1_1, .int .i64 a1_2] 39 ?_; intro gb608 hg w9 hbox hb; have BK608 := Aside0.mk (hbox); have GW608 := zg HB hg; have GE608 := GW608; have NB607_608 := zl BK607 hg; have NB608_607 := zr BK607 hg; replace BK607 := zb BK607 hb; replace HB := zh HB hb; clear hb hbox hg) | ((with_reducible refine gate_dst (N := 4) rfl ?_); (try (refine gate_guard (by rfl) ?_; dsimp only)); refine zE 4 #[.int .i64 0, .slice none 0 0] 30 ?_; intro gb609 hg w10 hbox hb; have BK609 := Aside0.mk (hbox); have GW609 := zg HB hg; have GE609 := GW609; have NB607_609 := zl BK607 hg; have NB609_607 := zr BK607 hg; have NB608_609 := zl BK608 hg; have NB609_608 := zr BK608 hg; replace BK607 := zb BK607 hb; replace BK608 := zb BK608 hb; replace HB := zh HB hb; clear hb hbox hg; have hnb11 := NB607_608.out; have hnc11 := NB608_607.out; have hnb12 := NB607_609.out; have hnc12 := NB609_607.out; obtain ⟨_, _, _, _⟩ := zc2 BK607) | ((with_reducible refine gate_callee (f := 13) rfl ?_); refine zG (some 7) Try.func13 #[.agg #[.int .i64 a0_0, .slice A0_1 l0_1.length c0_1]] ?_; (with_reducible refine (impl_IsPuzzle.calls k a0_0 _ _ l0_1 true _ ?side1 ?side2 A3.out).mono ?_); (case side1 => repeat (first | exact (Kd.C_below HR0_1.out HB.out) | (with_reducible refine Kd.C_alloc ?_ _) | (with_reducible refine Kd.C_drewN ?_ _) | (with_reducible refine Kd.C_drew ?_))); (case side2 => exact HC0_1.out); rintro e w14 ⟨rfl, hb⟩; refine ⟨_, rfl, ?_⟩; replace BK607 := zb BK607 hb; replace BK608 := zb BK608 hb; replace BK609 := zb BK609 hb; replace HB := zh HB hb; clear hb; have hnb15 := NB608_609.out; have hnc15 := NB609_608.out; obtain ⟨_, _, _, _, _, _⟩ := zc3 BK608) | (go_at_call 47; (with_reducible refine (impl_isClue.calls k a1_0 a1_1 a1_2 true _ A5.out).mono ?_); rintro e w17 ⟨rfl, hb⟩; replace BK607 := zb BK607 hb; replace BK608 := zb BK608 hb; replace BK609 := zb BK609 hb; replace HB := zh HB hb; clear hb; obtain ⟨_, _, _, _⟩ := zc2 BK607; obtain ⟨_, _, _, _⟩ := zc2 BK609))
    refine bodyPost_ret (results_ct rfl _ _ gb609 30 #[.int .i64 0, .slice none 0 0] (0, 0) _ rfl (zw BK609) Try.underlying30 rfl (by kernel_rfl)) rfl ?_
    exact ⟨_, zt, by first | exact Kd.R_nil _ _ _ _ _ | exact Kd.N_nil _ _ _ _ _ | exact Kd.V_nil _ _ _ _ _ | exact Kd.Q_nil _ _ _ _ _ | exact Kd.S_nil _ _ _ _ _, zy HB⟩
   ·rw [if_neg c7] at H
    have c7b0 : ((l0_1.length : Int) == 6) = false := beq_eq_false_iff_ne.mpr c7
    have c7b1 : ((l0_1.length : Int) != 6) = true := bne_iff_ne.mpr c7
    replace H := Option.bind_eq_some_iff.mp H; obtain ⟨t612, A200, H⟩ := H; (try dsimp only at H); have A20 := Aside0.mk A200; clear A200
    obtain ⟨y615, hy615⟩ : ∃ y_ : List (S39), y_ = (([(⟨a1_0, a1_1, a1_2⟩ : S39)] : List (S39))) := ⟨_, rfl⟩
    replace H : (if t612.length + y615.length < 5864062014805 then (some (a0_0, (t612 ++ y615), true)) else (none)) = some (r1, r2, r3) := by first | (rw [hy615]; with_reducible exact H) | (have H2_ := (Option.bind_some _ _).symm.trans H; rw [hy615]; with_reducible exact H2_) | (have H2_ := (Option.bind_some _ _).symm.trans H; with_reducible exact H2_) | with_reducible exact H | (rw [hy615]; exact H) | exact H
    have Ny615 := Aside0.mk hy615; clear hy615
    by_cases c21 : t612.length + y615.length < 5864062014805
    ·rw [if_pos c21] at H
     have LMc21 := Aside0.mk c21; clear c21
     obtain ⟨y618, hy618⟩ : ∃ y_ : List (S39), y_ = (t612 ++ y615) := ⟨_, rfl⟩
     replace H : (some (a0_0, y618, true)) = some (r1, r2, r3) := by first | (rw [hy618]; with_reducible exact H) | (have H2_ := (Option.bind_some _ _).symm.trans H; rw [hy618]; with_reducible exact H2_) | (have H2_ := (Option.bind_some _ _).symm.trans H; with_reducible exact H2_) | with_reducible exact H | (rw [hy618]; exact H) | exact H
     have Ny618 := Aside0.mk hy618; clear hy618; simp only [Option.some.injEq, Prod.mk.injEq] at H; obtain ⟨rfl, rfl, rfl⟩ := H
     go_enter Try.func22, Try.ntmps22
     try go_wp2_with (first | ((with_reducible refine gate_dst (N := 2) rfl ?_); (try (refine gate_guard (by rfl) ?_; dsimp only)); refine zE 2 #[.int .i64 a0_0, .slice A0_1 l0_1.length c0_1] 30 ?_; intro gb607 hg w22 hbox hb; have BK607 := Aside0.mk (hbox); have GW607 := zg HB hg; have GE607 := GW607; replace HB := zh HB hb; clear hb hbox hg) | ((with_reducible refine gate_dst (N := 3) rfl ?_); (try (refine gate_guard (by rfl) ?_; dsimp only)); refine zE 3 #[.int .i64 a1_0, .int .i64 a1_1, .int .i64 a1_2] 39 ?_; intro gb608 hg w23 hbox hb; have BK608 := Aside0.mk (hbox); have GW608 := zg HB hg; have GE608 := GW608; have NB607_608 := zl BK607 hg; have NB608_607 := zr BK607 hg; replace BK607 := zb BK607 hb; replace HB := zh HB hb; clear hb hbox hg) | ((with_reducible refine gate_dst (N := 4) rfl ?_); (try (refine gate_guard (by rfl) ?_; dsimp only)); refine zE 4 #[.int .i64 0, .slice none 0 0] 30 ?_; intro gb609 hg w24 hbox hb; have BK609 := Aside0.mk (hbox); have GW609 := zg HB hg; have GE609 := GW609; have NB607_609 := zl BK607 hg; have NB609_607 := zr BK607 hg; have NB608_609 := zl BK608 hg; have NB609_608 := zr BK608 hg; replace BK607 := zb BK607 hb; replace BK608 := zb BK608 hb; replace HB := zh HB hb; clear hb hbox hg; have hnb25 := NB607_608.out; have hnc25 := NB608_607.out; have hnb26 := NB607_609.out; have hnc26 := NB609_607.out; obtain ⟨_, _, _, _⟩ := zc2 BK607) | ((with_reducible refine gate_callee (f := 13) rfl ?_); refine zG (some 7) Try.func13 #[.agg #[.int .i64 a0_0, .slice A0_1 l0_1.length c0_1]] ?_; (with_reducible refine (impl_IsPuzzle.calls k a0_0 _ _ l0_1 true _ ?side1 ?side2 A3.out).mono ?_); (case side1 => repeat (first | exact (Kd.C_below HR0_1.out HB.out) | (with_reducible refine Kd.C_alloc ?_ _) | (with_reducible refine Kd.C_drewN ?_ _) | (with_reducible refine Kd.C_drew ?_))); (case side2 => exact HC0_1.out); rintro e w28 ⟨rfl, hb⟩; refine ⟨_, rfl, ?_⟩; replace BK607 := zb BK607 hb; replace BK608 := zb BK608 hb; replace BK609 := zb BK609 hb; replace HB := zh HB hb; clear hb; have hnb29 := NB608_609.out; have hnc29 := NB609_608.out; obtain ⟨_, _, _, _, _, _⟩ := zc3 BK608) | (go_at_call 47; (with_reducible refine (impl_isClue.calls k a1_0 a1_1 a1_2 true _ A5.out).mono ?_); rintro e w31 ⟨rfl, hb⟩; replace BK607 := zb BK607 hb; replace BK608 := zb BK608 hb; replace BK609 := zb BK609 hb; replace HB := zh HB hb; clear hb; obtain ⟨_, _, _, _⟩ := zc2 BK607))
     replace BK607 := Aside0.mk (blk_drew BK607.out); replace BK608 := Aside0.mk (blk_drew BK608.out); replace BK609 := Aside0.mk (blk_drew BK609.out); replace HB := Aside0.mk (below_drew1 HB.out)
     refine start_ (n := 11) (S := fun w' => w'.cell? ⟨gb607, 0, none⟩ = some (.int .i64 a0_0) ∧ w'.cell? ⟨gb607, 1, none⟩ = some (.slice A0_1 l0_1.length c0_1) ∧ w'.cell? ⟨gb608, 0, none⟩ = some (.int .i64 a1_0) ∧ w'.cell? ⟨gb608, 1, none⟩ = some (.int .i64 a1_1) ∧ w'.cell? ⟨gb608, 2, none⟩ = some (.int .i64 a1_2)) (ds := []) #[false, false, false, false, false, false, false, false, false, false, false] (by kernel_rfl) rfl rfl ⟨(blk_cell BK607.out 0).trans rfl, (blk_cell BK607.out 1).trans rfl, (blk_cell BK608.out 0).trans rfl, (blk_cell BK608.out 1).trans rfl, (blk_cell BK608.out 2).trans rfl⟩ (fun hHeld => ?_); refine with_tabW impl_AddClue.tab3 impl_AddClue.bits3 (fun HT_ HW_ => ?_)
     generalize w31.drew = w33 at BK607 BK608 BK609 HB hHeld ⊢
     refine zA 0 21 HT_ ?_
     refine zA 2 23 HT_ ?_
     refine zT 1 22 HT_ HW_ hHeld ?_
     refine zT 3 24 HT_ HW_ hHeld ?_
     refine zT 5 26 HT_ HW_ hHeld ?_
     refine join_ (σ := Value × Value) 4 #[true, true, true, true, true, true, true, false, false, false, false] (fun s_ => [(25, s_.1), (27, s_.2)]) (fun s_ w' => (w'.cell? ⟨gb607, 0, none⟩ = some (.int .i64 a0_0) ∧ w'.cell? ⟨gb607, 1, none⟩ = some (.slice A0_1 l0_1.length c0_1) ∧ w'.cell? ⟨gb608, 0, none⟩ = some (.int .i64 a1_0) ∧ w'.cell? ⟨gb608, 1, none⟩ = some (.int .i64 a1_1) ∧ w'.cell? ⟨gb608, 2, none⟩ = some (.int .i64 a1_2)) ∧ (Kd.R k39 39 w' w.heap.size (fun k_ => some k_ ≠ (s_.2 : Value).ownBlock ∧ k_ ≠ gb608) s_.1 t612) ∧ (Kd.R k39 39 w' w.heap.size (fun k_ => some k_ ≠ (s_.1 : Value).ownBlock ∧ k_ ≠ gb608) s_.2 y615) ∧ (w'.heap[gb607]? = some (.cells #[.int .i64 a0_0, .slice A0_1 l0_1.length c0_1] 30 (0, 0))) ∧ (w'.heap[gb608]? = some (.cells #[.int .i64 a1_0, .int .i64 a1_1, .int .i64 a1_2] 39 (0, 0))) ∧ (w'.heap[gb609]? = some (.cells #[.int .i64 0, .slice none 0 0] 30 (0, 0))) ∧ (Below w.heap.size w w')) ?_ ?_
     rotate_left
     ·intro hCont
      refine two_ (i := 4) (j := 6) (Ni := some 25) (Nj := some 27) #[true, true, true, true, true, true, false, false, false, false, false] #[true, true, true, true, false, true, true, false, false, false, false] rfl rfl rfl rfl (two_of HT_.out (by kernel_rfl)) (by decide) (by decide) (fun K hK => ?_) (fun K hK => ?_)
      ·skip
       refine goes_ Try.func56 (by kernel_rfl) rfl #[.slice A0_1 l0_1.length c0_1] (by rfl) rfl rfl zO2_1 ?_
       with_reducible refine (impl_Clue_56.calls _ _ l0_1 t612 _ ?side1 ?side2 A20.out).mono ?_
       (case side1 => repeat (first | exact (Kd.C_below HR0_1.out HB.out) | (with_reducible refine Kd.C_alloc ?_ _) | (with_reducible refine Kd.C_drewN ?_ _) | (with_reducible refine Kd.C_drew ?_)))
       (case side2 => exact HC0_1.out)
       rintro e w34 ⟨v613, rfl, ho0, hb⟩
       refine ⟨_, rfl, ?_⟩
       have HO614 := Aside0.mk (Kd.R_lower (Kd.R_newB ho0 (zq BK608)) (below_size (zy HB)))
       replace BK607 := zb BK607 hb; replace BK608 := zb BK608 hb; replace BK609 := zb BK609 hb; replace HB := zh HB hb
       (try clear hb)
       (try clear hb2)
       (try clear hk)
       (try clear hi)
       (try clear ho0)
       refine hK.out _ _ ⟨(blk_cell BK607.out 0).trans rfl, (blk_cell BK607.out 1).trans rfl, (blk_cell BK608.out 0).trans rfl, (blk_cell BK608.out 1).trans rfl, (blk_cell BK608.out 2).trans rfl⟩ (fun hHeld => ?_)
       clear hK K
       refine zN 25 ?_
       refine zO 6 (some 27) HT_ (fun K hK => ?_)
       refine Kd.R_lit_step k39 _ 39 ?hg (N := 27) ?hd (xs := ([(⟨a1_0, a1_1, a1_2⟩ : S39)] : List (S39))) (inner := [.int .i64 a1_0, .int .i64 a1_1, .int .i64 a1_2]) (ok := fun _ => True) (okp := fun _ => True) ?hr ?hp (fun _ hk => hk) trivial (Below.refl _ _) (Nat.le_refl _) zO2_9 ?_; (case hd => rfl); (case hg => rfl); (case hr => first | (go_simp; done) | (go_simp; rfl)); (case hp => exact (Reps.c3 (show Kd.M k39 _ _ _ (⟨a1_0, a1_1, a1_2⟩ : S39) [.int .i64 a1_0, .int .i64 a1_1, .int .i64 a1_2] from (k39_mkM _ _ _ (⟨a1_0, a1_1, a1_2⟩ : S39) )) (Reps.none _ _)))
       intro v616 w35 ho36 hb hg_ hnew_
       clear hg_ hnew_
       (first | rw [← Ny615.out] at ho36 | (simp only [Int.reduceToNat] at ho36; rw [← Ny615.out] at ho36))
       have n0_ := Aside0.mk (Kd.R_elder' (zs HO614) (Kd.R_base ho36) hb)
       have HO617 := Aside0.mk (Kd.R_lower (Kd.R_newB (Kd.R_new' ho36 (Kd.R_lt (zs HO614))) (zq BK608)) (below_size (zy HB)))
       replace BK607 := zb BK607 hb; replace BK608 := zb BK608 hb; replace BK609 := zb BK609 hb; replace HB := zh HB hb; clear HO614; have HO614 := n0_; clear n0_; clear hb ho36
       refine hK.out _ _ ⟨(blk_cell BK607.out 0).trans rfl, (blk_cell BK607.out 1).trans rfl, (blk_cell BK608.out 0).trans rfl, (blk_cell BK608.out 1).trans rfl, (blk_cell BK608.out 2).trans rfl⟩ (fun hHeld => ?_)
       clear hK K
       refine zN 27 ?_
       exact norm_ zO2_6 (hCont (v613, v616) _ ⟨hHeld, (by (with_reducible repeat (first | apply Kd.R_alloc | apply Kd.R_drewN | apply Kd.R_drew)); exact Kd.R_mono HO614.out (fun _ hk => ⟨hk.2, hk.1.2⟩)), (by (with_reducible repeat (first | apply Kd.R_alloc | apply Kd.R_drewN | apply Kd.R_drew)); exact Kd.R_mono HO617.out (fun _ hk => ⟨hk.1.2, hk.2⟩)), (zq BK607), (zq BK608), (zq BK609), (zy HB)⟩)
      ·skip
       refine Kd.R_lit_step k39 _ 39 ?hg (N := 27) ?hd (xs := ([(⟨a1_0, a1_1, a1_2⟩ : S39)] : List (S39))) (inner := [.int .i64 a1_0, .int .i64 a1_1, .int .i64 a1_2]) (ok := fun _ => True) (okp := fun _ => True) ?hr ?hp (fun _ hk => hk) trivial (Below.refl _ _) (Nat.le_refl _) zO2_9 ?_; (case hd => rfl); (case hg => rfl); (case hr => first | (go_simp; done) | (go_simp; rfl)); (case hp => exact (Reps.c3 (show Kd.M k39 _ _ _ (⟨a1_0, a1_1, a1_2⟩ : S39) [.int .i64 a1_0, .int .i64 a1_1, .int .i64 a1_2] from (k39_mkM _ _ _ (⟨a1_0, a1_1, a1_2⟩ : S39) )) (Reps.none _ _)))
       intro v616 w34 ho35 hb hg_ hnew_
       clear hg_ hnew_
       (first | rw [← Ny615.out] at ho35 | (simp only [Int.reduceToNat] at ho35; rw [← Ny615.out] at ho35))
       have HO617 := Aside0.mk (Kd.R_lower (Kd.R_newB ho35 (zq BK608)) (below_size (zy HB)))
       replace BK607 := zb BK607 hb; replace BK608 := zb BK608 hb; replace BK609 := zb BK609 hb; replace HB := zh HB hb; clear hb ho35
       refine hK.out _ _ ⟨(blk_cell BK607.out 0).trans rfl, (blk_cell BK607.out 1).trans rfl, (blk_cell BK608.out 0).trans rfl, (blk_cell BK608.out 1).trans rfl, (blk_cell BK608.out 2).trans rfl⟩ (fun hHeld => ?_)
       clear hK K
       refine zN 27 ?_
       refine zO 4 (some 25) HT_ (fun K hK => ?_)
       refine goes_ Try.func56 (by kernel_rfl) rfl #[.slice A0_1 l0_1.length c0_1] (by rfl) rfl rfl zO2_1 ?_
       with_reducible refine (impl_Clue_56.calls _ _ l0_1 t612 _ ?side1 ?side2 A20.out).mono ?_
       (case side1 => repeat (first | exact (Kd.C_below HR0_1.out HB.out) | (with_reducible refine Kd.C_alloc ?_ _) | (with_reducible refine Kd.C_drewN ?_ _) | (with_reducible refine Kd.C_drew ?_)))
       (case side2 => exact HC0_1.out)
       rintro e w36 ⟨v613, rfl, ho0, hb⟩
       refine ⟨_, rfl, ?_⟩
       have n0_ := Aside0.mk (Kd.R_elder' (zs HO617) (Kd.R_base ho0) hb)
       have HO614 := Aside0.mk (Kd.R_lower (Kd.R_newB (Kd.R_new' ho0 (Kd.R_lt (zs HO617))) (zq BK608)) (below_size (zy HB)))
       replace BK607 := zb BK607 hb; replace BK608 := zb BK608 hb; replace BK609 := zb BK609 hb; replace HB := zh HB hb; clear HO617; have HO617 := n0_; clear n0_
       (try clear hb)
       (try clear hb2)
       (try clear hk)
       (try clear hi)
       (try clear ho0)
       refine hK.out _ _ ⟨(blk_cell BK607.out 0).trans rfl, (blk_cell BK607.out 1).trans rfl, (blk_cell BK608.out 0).trans rfl, (blk_cell BK608.out 1).trans rfl, (blk_cell BK608.out 2).trans rfl⟩ (fun hHeld => ?_)
       clear hK K
       refine zN 25 ?_
       exact norm_ zO2_6 (hCont (v613, v616) _ ⟨hHeld, (by (with_reducible repeat (first | apply Kd.R_alloc | apply Kd.R_drewN | apply Kd.R_drew)); exact Kd.R_mono HO614.out (fun _ hk => ⟨hk.1.2, hk.2⟩)), (by (with_reducible repeat (first | apply Kd.R_alloc | apply Kd.R_drewN | apply Kd.R_drew)); exact Kd.R_mono HO617.out (fun _ hk => ⟨hk.2, hk.1.2⟩)), (zq BK607), (zq BK608), (zq BK609), (zy HB)⟩)
     rintro ⟨v613, v616⟩ w37 ⟨hS_, h0_, h1_, h2_, h3_, h4_, h5_⟩
     have n0_ : Aside0 (Kd.R k39 39 w37 w.heap.size (fun k_ => some k_ ≠ (v616 : Value).ownBlock ∧ k_ ≠ gb608) v613 t612) := ⟨h0_⟩
     have n1_ : Aside0 (Kd.R k39 39 w37 w.heap.size (fun k_ => some k_ ≠ (v613 : Value).ownBlock ∧ k_ ≠ gb608) v616 y615) := ⟨h1_⟩
     have n2_ : Aside0 (w37.heap[gb607]? = some (.cells #[.int .i64 a0_0, .slice A0_1 l0_1.length c0_1] 30 (0, 0))) := ⟨h2_⟩
     have n3_ : Aside0 (w37.heap[gb608]? = some (.cells #[.int .i64 a1_0, .int .i64 a1_1, .int .i64 a1_2] 39 (0, 0))) := ⟨h3_⟩
     have n4_ : Aside0 (w37.heap[gb609]? = some (.cells #[.int .i64 0, .slice none 0 0] 30 (0, 0))) := ⟨h4_⟩
     have n5_ : Aside0 (Below w.heap.size w w37) := ⟨h5_⟩
     clear BK607; clear BK608; clear BK609; clear HB; clear h0_ h1_ h2_ h3_ h4_ h5_; have HO614 := n0_; have HO617 := n1_; have BK607 := n2_; have BK608 := n3_; have BK609 := n4_; have HB := n5_; clear n0_ n1_ n2_ n3_ n4_ n5_
     have hHeld : w37.cell? ⟨gb607, 0, none⟩ = some (.int .i64 a0_0) ∧ w37.cell? ⟨gb607, 1, none⟩ = some (.slice A0_1 l0_1.length c0_1) ∧ w37.cell? ⟨gb608, 0, none⟩ = some (.int .i64 a1_0) ∧ w37.cell? ⟨gb608, 1, none⟩ = some (.int .i64 a1_1) ∧ w37.cell? ⟨gb608, 2, none⟩ = some (.int .i64 a1_2) := hS_
     obtain ⟨Ao39, co39, eo39⟩ := Kd.R_slice HO617.out
     (first | subst eo39 | (injection eo39 with f1_ f2_ f3_; have f4_ := f1_.symm; have f5_ := f3_.symm; clear f1_ f2_ f3_; subst f4_; subst f5_))
     refine norm_ (a' := ?_) ?_ ?_
     rotate_left
     ·simp only [putAll, Act.put, List.setIfInBounds_toArray, List.set_cons_zero, List.set_cons_succ]
      rfl
     refine zO 7 (some 28) HT_ (fun K hK => ?_)
     refine Kd.R_append_rows_step k39 (w0 := w) w.heap.size (by rfl) (.tmp 25) (.tmp 27) 28 39 (.agg #[(.int .i64 0), (.int .i64 0), (.int .i64 0)]) 24 rfl Try.underlying28 info39 rfl (by decide) zO2_8 v613 t612 y615 _ _ _ (fun k_ => some k_ ≠ (.slice Ao39 y615.length co39 : Value).ownBlock ∧ k_ ≠ gb608) (fun _ => False) rfl rfl ?aO ?aR (fun _ _ h => h) (fun _ h => h.elim) ?aF ?aB ?aS ?aL ?_
     (case aR => repeat (first | exact (Kd.R_reads' HO617.out).2.2 | (with_reducible refine Kd.C_alloc ?_ _) | (with_reducible refine Kd.C_drewN ?_ _) | (with_reducible refine Kd.C_drew ?_)))
     (case aB => exact (zy HB))
     (case aF => exact (fun k_ hk => ⟨Kd.fresh' (Kd.R_lt (zs HO617)) k_ hk, Kd.freshB (zq BK608) k_ hk⟩))
     (case aO => exact (zs HO614))
     (case aS => exact (below_size (zy HB)))
     (case aL => have := LMc21.out; omega)
     intro v619 w38 ho hb hg hat
     rw [← Ny618.out] at ho
     have n0_ := Aside0.mk (blk_grown (zq BK607) hg (Kd.R_ne HO614.out BK607.out (by decide)))
     have n1_ := Aside0.mk (blk_grown (zq BK608) hg (Kd.R_away HO614.out (fun _ hk => hk.2)))
     have n2_ := Aside0.mk (blk_grown (zq BK609) hg (Kd.R_ne HO614.out BK609.out (by decide)))
     have n3_ := Aside0.mk (Kd.R_after (ok := (fun k_ => k_ ≠ gb608)) (by (with_reducible repeat (first | apply Kd.R_alloc | apply Kd.R_drewN | apply Kd.R_drew)); exact Kd.R_mono HO617.out (fun _ hk => ⟨hk.2, hk.1⟩)) hg hat)
     have HO620 := Aside0.mk (ho)
     replace HB := Aside0.mk hb
     clear HO614; clear BK607; have BK607 := n0_; clear n0_; clear BK608; have BK608 := n1_; clear n1_; clear BK609; have BK609 := n2_; clear n2_; clear HO617; have HO617 := n3_; clear n3_; clear ho hb hg hat
     obtain ⟨Ao40, co40, eo40⟩ := Kd.R_slice HO620.out
     (first | subst eo40 | (injection eo40 with f1_ f2_ f3_; have f4_ := f1_.symm; have f5_ := f3_.symm; clear f1_ f2_ f3_; subst f4_; subst f5_))
     refine hK.out _ _ ⟨(blk_cell BK607.out 0).trans rfl, (blk_cell BK607.out 1).trans rfl, (blk_cell BK608.out 0).trans rfl, (blk_cell BK608.out 1).trans rfl, (blk_cell BK608.out 2).trans rfl⟩ (fun hHeld => ?_)
     clear hK K
     refine zN 28 ?_
     refine zA 8 29 HT_ ?_
     refine zO 9 none HT_ (fun K hK => ?_)
     have hs41 : w38.cell? ⟨gb609, 0, none⟩ = some (.int .i64 0) := (blk_cell BK609.out 0).trans rfl
     have hfs41 := blk_frozen BK609.out 0
     have hns41_0 := NB607_609.out; have hns41_1 := NB608_609.out; have hms41_0 := NB609_607.out; have hms41_1 := NB609_608.out
     have hs42 : w38.cell? ⟨gb609, 1, none⟩ = some (.slice none 0 0) := (blk_cell BK609.out 1).trans rfl
     have hfs42 := blk_frozen BK609.out 1
     have hns42_0 := NB607_609.out; have hns42_1 := NB608_609.out; have hms42_0 := NB609_607.out; have hms42_1 := NB609_608.out
     refine skip_ (w1 := ?_) (by rfl) rfl ?_ ?_
     rotate_left
     ·go_simp
      rfl
     refine hK.out _ _ ⟨((cell_far (p := ⟨gb609, _, none⟩) NB607_609.out _).trans (((cell_far (p := ⟨gb609, _, none⟩) NB607_609.out _).trans (hHeld.1)))), ((cell_far (p := ⟨gb609, _, none⟩) NB607_609.out _).trans (((cell_far (p := ⟨gb609, _, none⟩) NB607_609.out _).trans (hHeld.2.1)))), ((cell_far (p := ⟨gb609, _, none⟩) NB608_609.out _).trans (((cell_far (p := ⟨gb609, _, none⟩) NB608_609.out _).trans (hHeld.2.2.1)))), ((cell_far (p := ⟨gb609, _, none⟩) NB608_609.out _).trans (((cell_far (p := ⟨gb609, _, none⟩) NB608_609.out _).trans (hHeld.2.2.2.1)))), ((cell_far (p := ⟨gb609, _, none⟩) NB608_609.out _).trans (((cell_far (p := ⟨gb609, _, none⟩) NB608_609.out _).trans (hHeld.2.2.2.2))))⟩ (fun hHeld => ?_)
     clear hK K
     refine zA 10 5 HT_ ?_
     refine done_ (done_of HT_.out (by kernel_rfl)) ?_
     try go_wp2
     refine bodyPost_ret (results_ct rfl _ _ gb609 30 #[.int .i64 a0_0, .slice Ao40 y618.length co40] (0, 0) _ rfl (zw BK609) Try.underlying30 rfl (by kernel_rfl)) rfl ?_
     exact ⟨_, zt, by (with_reducible repeat (first | apply Kd.R_alloc | apply Kd.R_drewN | apply Kd.R_drew)); exact Kd.R_mono (Kd.R_far (p := ⟨gb609, 1, none⟩) (Kd.R_far (p := ⟨gb609, 0, none⟩) (Kd.R_types HO620.out BK609.out (by decide)) (fun _ hk => hk.2) (.int .i64 a0_0)) (fun _ hk => hk.2) (.slice Ao40 y618.length co40)) (fun _ hk => trivial), zy HB⟩
    ·rw [if_neg c21] at H
     exact absurd H zO2_9
  ·replace c6 := Bool.eq_false_iff.mpr c6
   subst c6; rw [if_neg (show ¬ (false = true) by decide)] at H; simp only [Option.some.injEq, Prod.mk.injEq] at H; obtain ⟨rfl, rfl, rfl⟩ := H
   go_enter Try.func22, Try.ntmps22
   go_wp2_with (first | ((with_reducible refine gate_dst (N := 2) rfl ?_); (try (refine gate_guard (by rfl) ?_; dsimp only)); refine zE 2 #[.int .i64 a0_0, .slice A0_1 l0_1.length c0_1] 30 ?_; intro gb607 hg w43 hbox hb; have BK607 := Aside0.mk (hbox); have GW607 := zg HB hg; have GE607 := GW607; replace HB := zh HB hb; clear hb hbox hg) | ((with_reducible refine gate_dst (N := 3) rfl ?_); (try (refine gate_guard (by rfl) ?_; dsimp only)); refine zE 3 #[.int .i64 a1_0, .int .i64 a1_1, .int .i64 a1_2] 39 ?_; intro gb608 hg w44 hbox hb; have BK608 := Aside0.mk (hbox); have GW608 := zg HB hg; have GE608 := GW608; have NB607_608 := zl BK607 hg; have NB608_607 := zr BK607 hg; replace BK607 := zb BK607 hb; replace HB := zh HB hb; clear hb hbox hg) | ((with_reducible refine gate_dst (N := 4) rfl ?_); (try (refine gate_guard (by rfl) ?_; dsimp only)); refine zE 4 #[.int .i64 0, .slice none 0 0] 30 ?_; intro gb609 hg w45 hbox hb; have BK609 := Aside0.mk (hbox); have GW609 := zg HB hg; have GE609 := GW609; have NB607_609 := zl BK607 hg; have NB609_607 := zr BK607 hg; have NB608_609 := zl BK608 hg; have NB609_608 := zr BK608 hg; replace BK607 := zb BK607 hb; replace BK608 := zb BK608 hb; replace HB := zh HB hb; clear hb hbox hg; have hnb46 := NB607_608.out; have hnc46 := NB608_607.out; have hnb47 := NB607_609.out; have hnc47 := NB609_607.out; obtain ⟨_, _, _, _⟩ := zc2 BK607) | ((with_reducible refine gate_callee (f := 13) rfl ?_); refine zG (some 7) Try.func13 #[.agg #[.int .i64 a0_0, .slice A0_1 l0_1.length c0_1]] ?_; (with_reducible refine (impl_IsPuzzle.calls k a0_0 _ _ l0_1 true _ ?side1 ?side2 A3.out).mono ?_); (case side1 => repeat (first | exact (Kd.C_below HR0_1.out HB.out) | (with_reducible refine Kd.C_alloc ?_ _) | (with_reducible refine Kd.C_drewN ?_ _) | (with_reducible refine Kd.C_drew ?_))); (case side2 => exact HC0_1.out); rintro e w49 ⟨rfl, hb⟩; refine ⟨_, rfl, ?_⟩; replace BK607 := zb BK607 hb; replace BK608 := zb BK608 hb; replace BK609 := zb BK609 hb; replace HB := zh HB hb; clear hb; have hnb50 := NB608_609.out; have hnc50 := NB609_608.out; obtain ⟨_, _, _, _, _, _⟩ := zc3 BK608) | (go_at_call 47; (with_reducible refine (impl_isClue.calls k a1_0 a1_1 a1_2 false _ A5.out).mono ?_); rintro e w52 ⟨rfl, hb⟩; replace BK607 := zb BK607 hb; replace BK608 := zb BK608 hb; replace BK609 := zb BK609 hb; replace HB := zh HB hb; clear hb; obtain ⟨_, _, _, _⟩ := zc2 BK609))
   refine bodyPost_ret (results_ct rfl _ _ gb609 30 #[.int .i64 0, .slice none 0 0] (0, 0) _ rfl (zw BK609) Try.underlying30 rfl (by kernel_rfl)) rfl ?_
   exact ⟨_, zt, by first | exact Kd.R_nil _ _ _ _ _ | exact Kd.N_nil _ _ _ _ _ | exact Kd.V_nil _ _ _ _ _ | exact Kd.Q_nil _ _ _ _ _ | exact Kd.S_nil _ _ _ _ _, zy HB⟩
 ·replace c4 := Bool.eq_false_iff.mpr c4
  subst c4; rw [if_neg (show ¬ (false = true) by decide)] at H; simp only [Option.some.injEq, Prod.mk.injEq] at H; obtain ⟨rfl, rfl, rfl⟩ := H
  go_enter Try.func22, Try.ntmps22
  go_wp2_with (first | ((with_reducible refine gate_dst (N := 2) rfl ?_); (try (refine gate_guard (by rfl) ?_; dsimp only)); refine zE 2 #[.int .i64 a0_0, .slice A0_1 l0_1.length c0_1] 30 ?_; intro gb607 hg w54 hbox hb; have BK607 := Aside0.mk (hbox); have GW607 := zg HB hg; have GE607 := GW607; replace HB := zh HB hb; clear hb hbox hg) | ((with_reducible refine gate_dst (N := 3) rfl ?_); (try (refine gate_guard (by rfl) ?_; dsimp only)); refine zE 3 #[.int .i64 a1_0, .int .i64 a1_1, .int .i64 a1_2] 39 ?_; intro gb608 hg w55 hbox hb; have BK608 := Aside0.mk (hbox); have GW608 := zg HB hg; have GE608 := GW608; have NB607_608 := zl BK607 hg; have NB608_607 := zr BK607 hg; replace BK607 := zb BK607 hb; replace HB := zh HB hb; clear hb hbox hg) | ((with_reducible refine gate_dst (N := 4) rfl ?_); (try (refine gate_guard (by rfl) ?_; dsimp only)); refine zE 4 #[.int .i64 0, .slice none 0 0] 30 ?_; intro gb609 hg w56 hbox hb; have BK609 := Aside0.mk (hbox); have GW609 := zg HB hg; have GE609 := GW609; have NB607_609 := zl BK607 hg; have NB609_607 := zr BK607 hg; have NB608_609 := zl BK608 hg; have NB609_608 := zr BK608 hg; replace BK607 := zb BK607 hb; replace BK608 := zb BK608 hb; replace HB := zh HB hb; clear hb hbox hg; have hnb57 := NB607_608.out; have hnc57 := NB608_607.out; have hnb58 := NB607_609.out; have hnc58 := NB609_607.out; obtain ⟨_, _, _, _⟩ := zc2 BK607) | ((with_reducible refine gate_callee (f := 13) rfl ?_); refine zG (some 7) Try.func13 #[.agg #[.int .i64 a0_0, .slice A0_1 l0_1.length c0_1]] ?_; (with_reducible refine (impl_IsPuzzle.calls k a0_0 _ _ l0_1 false _ ?side1 ?side2 A3.out).mono ?_); (case side1 => repeat (first | exact (Kd.C_below HR0_1.out HB.out) | (with_reducible refine Kd.C_alloc ?_ _) | (with_reducible refine Kd.C_drewN ?_ _) | (with_reducible refine Kd.C_drew ?_))); (case side2 => exact HC0_1.out); rintro e w60 ⟨rfl, hb⟩; refine ⟨_, rfl, ?_⟩; replace BK607 := zb BK607 hb; replace BK608 := zb BK608 hb; replace BK609 := zb BK609 hb; replace HB := zh HB hb; clear hb; have hnb61 := NB609_608.out; have hnc61 := NB608_609.out; obtain ⟨_, _, _, _⟩ := zc2 BK609))
  refine bodyPost_ret (results_ct rfl _ _ gb609 30 #[.int .i64 0, .slice none 0 0] (0, 0) _ rfl (zw BK609) Try.underlying30 rfl (by kernel_rfl)) rfl ?_
  exact ⟨_, zt, by first | exact Kd.R_nil _ _ _ _ _ | exact Kd.N_nil _ _ _ _ _ | exact Kd.V_nil _ _ _ _ _ | exact Kd.Q_nil _ _ _ _ _ | exact Kd.S_nil _ _ _ _ _, zy HB⟩

end Go.Proofs.Ytopoopkobfdjjaa.P
