/- Go functions of this seat as plain Lean functions, proofs that the calls answer as these say, and what these answer: parts of the proofs of 7 laws. Every input that the given rows speak of; nothing else is asked. -/
import Derived.Test.YtbdjidjcmmeanaaM0
import Derived.Test.YtbdjidjcmmeanaaM3
import Derived.Test.YtbdjidjcmmeanaaM1
import Derived.Test.YtbdjidjcmmeanaaM4
namespace Go.Proofs.Ytbdjidjcmmeanaa.P
open Go.RowKit Go.Proofs.YtbdjidjcmmeanaaW.PrintWords Go.Proofs.YtbdjidjcmmeanaaW.PrintLast Go.Proofs.YtbdjidjcmmeanaaW.PrintMore
attribute [local go_sem] max2_int min2_int max_two min_two max_three min_three max_four min_four   -- for this text's walks alone
set_option linter.unusedVariables false
set_option linter.unusedSimpArgs false

/-! ### spec_pzAll: function 79 -/
mutual
def spec_pzAll.l0 : Nat → Int → List (S37) → List (S45) → Int → Option ((List (S45)))
  | 0, _, _, _, _ => none
  | k + 1, x0, x1, x5, x6 => if x6 ≤ 12 then (spec_pzAll.l1 k x0 x1 x5 x6 1) else (some x5)
def spec_pzAll.l1 : Nat → Int → List (S37) → List (S45) → Int → Int → Option ((List (S45)))
  | 0, _, _, _, _, _ => none
  | k + 1, x0, x1, x5, x6, x7 => if x7 ≤ 12 then (spec_pzAll.l2 k x0 x1 x5 x6 x7 true x1 (x1.length : Int) 0 x0 x6 x7) else (spec_pzAll.l0 k x0 x1 x5 (wrap64 (x6 + 1)))
def spec_pzAll.l2 : Nat → Int → List (S37) → List (S45) → Int → Int → Bool → List (S37) → Int → Int → Int → Int → Int → Option ((List (S45)))
  | 0, _, _, _, _, _, _, _, _, _, _, _, _ => none
  | k + 1, x0, x1, x5, x6, x7, x9, x24, x25, x26, x454000, x454001, x454002 => if x26 < x25 then (if 0 ≤ x26 then (if x26 < (x24.length : Int) then (if x9 = true then ((spec_pzFits.f k ((rd_T37 x24 x26).f0) ((rd_T37 x24 x26).f1) ((rd_T37 x24 x26).f2) x454000 x454001 x454002).bind fun t456 => (spec_pzAll.l2 k x0 x1 x5 x6 x7 t456 x24 x25 (wrap64 (x26 + 1)) x454000 x454001 x454002)) else (spec_pzAll.l2 k x0 x1 x5 x6 x7 false x24 x25 (wrap64 (x26 + 1)) x454000 x454001 x454002)) else (none)) else (none)) else (if x9 = true then (if x5.length < 5864062014805 then (spec_pzAll.l1 k x0 x1 (x5 ++ [(⟨x454000, x454001, x454002⟩ : S45)]) x6 (wrap64 (x7 + 1))) else (none)) else (spec_pzAll.l1 k x0 x1 x5 x6 (wrap64 (x7 + 1))))
end
def spec_pzAll.f (k : Nat) (a0 : Int) (l1 : List (S37)) : Option ((List (S45))) := spec_pzAll.l0 k a0 l1 ([] : List (S45)) 1
set_option maxHeartbeats 8000000 in
set_option maxRecDepth 100000 in
theorem spec_pzAll.calls (k : Nat) (a0 : Int) (A1 : Option Addr) (c1 : Nat) (l1 : List (S37)) (r : List (S45)) (w : World) (hr1 : Kd.C k37 w A1 l1.length l1) (hc1 : l1.length ≤ c1) (h : spec_pzAll.f k a0 l1 = some r) :
    Calls Try.prog 79 #[.int .i64 a0, .slice A1 l1.length c1] w fun e w' => ∃ v0_ : Value, e = .returned (v0_) ∧ Kd.R k45 45 w' w.heap.size (fun _ => True) v0_ r ∧ Below w.heap.size w w' := by
  have hu45 := Try.underlying45
  have hu37 := Try.underlying37
  have HR1 := Aside0.mk hr1
  have HC1 := Aside0.mk hc1
  clear hr1 hc1
  have HB := Aside0.mk (Below.refl w.heap.size w)
  have H : (spec_pzAll.l0 k a0 l1 ([] : List (S45)) 1) = some r := h
  clear h
  have H' := Aside0.mk H
  clear H
  go_enter Try.func79, Try.ntmps79
  go_wp2
  go_loopg [5, 6] k (fun kq v5 v6 w' => ∃ (x5_1 : List (S45)) (x6_1 : Int), v6 = .int .i64 x6_1 ∧ Aside0 (spec_pzAll.l0 kq a0 l1 x5_1 x6_1 = some r) ∧ Aside0 (kq ≤ k) ∧ Aside0 (Kd.R k45 45 w' w.heap.size (fun _ => True) v5 x5_1) ∧ Aside0 (Below w.heap.size w w'))
  case atStart => exact ⟨(([] : List (S45))), (1), (by first | rfl | (simp; done) | (simp [*]; done)), H', ⟨Nat.le_refl _⟩, ⟨by first | exact Kd.R_nil _ _ _ _ _ | exact Kd.N_nil _ _ _ _ _ | exact Kd.V_nil _ _ _ _ _ | exact Kd.Q_nil _ _ _ _ _ | exact Kd.S_nil _ _ _ _ _⟩, ⟨by repeat (first | (with_reducible first | exact HB.out | apply below_alloc | apply pw_below_drewN | apply below_drew1) | exact HB.out)⟩⟩
  case round =>
    clear H'
    try clear c1
    try clear p2
    obtain ⟨x5_1, x6_1, rfl, HA, HK1, HO_5, HB⟩ := hrel
    cases gk with
    | zero => exact absurd HA.out (by simp [spec_pzAll.l0])
    | succ k1 =>
      have H := HA.out
      clear HA
      simp only [spec_pzAll.l0] at H
      by_cases c3 : x6_1 ≤ 12
      · rw [if_pos c3] at H
        have c3b0 : decide (x6_1 ≤ 12) = true := decide_eq_true c3
        clear c3
        have H' := Aside0.mk H
        clear H
        go_wp2
        go_loopg [5, 7] k1 (fun kq v5 v7 w' => ∃ (x5_2 : List (S45)) (x7_2 : Int), v7 = .int .i64 x7_2 ∧ Aside0 (spec_pzAll.l1 kq a0 l1 x5_2 x6_1 x7_2 = some r) ∧ Aside0 (kq ≤ k1) ∧ Aside0 (Kd.R k45 45 w' w.heap.size (fun _ => True) v5 x5_2) ∧ Aside0 (Below w.heap.size w w'))
        case atStart => exact ⟨(x5_1), (1), (by first | rfl | (simp; done) | (simp [*]; done)), H', ⟨Nat.le_refl _⟩, ⟨by (with_reducible repeat (first | apply Kd.R_alloc | apply Kd.R_drewN | apply Kd.R_drew)); exact HO_5.out⟩, ⟨by repeat (first | (with_reducible first | exact HB.out | apply below_alloc | apply pw_below_drewN | apply below_drew1) | exact HB.out)⟩⟩
        case round =>
          clear H'
          try clear c1
          try clear p2
          try clear c3
          try clear c3b0
          try clear p2
          obtain ⟨x5_2, x7_2, rfl, HA, HK2, HO_5, HB⟩ := hrel
          cases gk with
          | zero => exact absurd HA.out (by simp [spec_pzAll.l1])
          | succ k2 =>
            have H := HA.out
            clear HA
            simp only [spec_pzAll.l1] at H
            by_cases c4 : x7_2 ≤ 12
            · rw [if_pos c4] at H
              have c4b0 : decide (x7_2 ≤ 12) = true := decide_eq_true c4
              clear c4
              have H' := Aside0.mk H
              clear H
              go_wp2_with (first | ((with_reducible refine gate_dst (N := 8) rfl ?_); refine box_event ?hg (N := 8) ?hd (cs := #[.int .i64 0, .int .i64 0, .int .i64 0]) (t := 45) ?hr ?_; (case hd => rfl); (case hg => rfl); (case hr => first | (go_simp; done) | (go_simp; rfl)); intro gb453 hg w5 hbox hb; have n0_ := Aside0.mk (Kd.R_below (Kd.R_elderB (by (with_reducible repeat (first | apply Kd.R_alloc | apply Kd.R_drewN | apply Kd.R_drew)); exact HO_5.out) gb453 (Nat.le_of_eq hg.symm)) hb); have n1_ := Aside0.mk (below_step (by repeat (first | (with_reducible first | exact HB.out | apply below_alloc | apply pw_below_drewN | apply below_drew1) | exact HB.out)) hb); have n2_ := Aside0.mk (hbox); have n3_ := Aside0.mk ((by rw [hg]; exact (below_size (by repeat (first | (with_reducible first | exact HB.out | apply below_alloc | apply pw_below_drewN | apply below_drew1) | exact HB.out))) : w.heap.size ≤ gb453)); have n4_ := Aside0.mk ((by rw [hg]; exact (below_size (by repeat (first | (with_reducible first | exact HB.out | apply below_alloc | apply pw_below_drewN | apply below_drew1) | exact HB.out))) : w.heap.size ≤ gb453)); clear HO_5; clear HB; have HO_5 := n0_; have HB := n1_; have BK453 := n2_; have GW453 := n3_; have GE453 := n4_; clear n0_ n1_ n2_ n3_ n4_; clear hb hbox hg; have hcz6_0 : w5.cell? ⟨gb453, 0, none⟩ = some (.int .i64 0) := (blk_cell BK453.out 0).trans rfl; have hcz6_1 : w5.cell? ⟨gb453, 1, none⟩ = some (.int .i64 0) := (blk_cell BK453.out 1).trans rfl; have hcz6_2 : w5.cell? ⟨gb453, 2, none⟩ = some (.int .i64 0) := (blk_cell BK453.out 2).trans rfl; have hfz6_0 := blk_frozen BK453.out 0; have hfz6_1 := blk_frozen BK453.out 1; have hfz6_2 := blk_frozen BK453.out 2))
              go_loopg [9, 26] k2 (fun kq v9 v26 w' => ∃ (x9_3 : Bool) (x26_3 : Int), v9 = .bool x9_3 ∧ v26 = .int .i64 x26_3 ∧ Aside0 (spec_pzAll.l2 kq a0 l1 x5_2 x6_1 x7_2 x9_3 l1 (l1.length : Int) x26_3 a0 x6_1 x7_2 = some r) ∧ Aside0 (kq ≤ k2) ∧ Aside0 (Kd.R k45 45 w' w.heap.size (fun k_ => k_ ≠ gb453) u5 x5_2) ∧ Aside0 (w'.heap[gb453]? = some (.cells #[.int .i64 a0, .int .i64 x6_1, .int .i64 x7_2] 45 (0, 0))) ∧ Aside0 (Below w.heap.size w w'))
              case atStart => exact ⟨(true), (0), (by first | rfl | (simp; done) | (simp [*]; done)), (by first | rfl | (simp; done) | (simp [*]; done)), H', ⟨Nat.le_refl _⟩, ⟨by (with_reducible repeat (first | apply Kd.R_alloc | apply Kd.R_drewN | apply Kd.R_drew)); exact Kd.R_mono (Kd.R_far (p := ⟨gb453, 2, none⟩) (Kd.R_far (p := ⟨gb453, 1, none⟩) (Kd.R_far (p := ⟨gb453, 0, none⟩) (Kd.R_mono HO_5.out (fun k_ hk => (⟨hk, hk.2⟩ : _ ∧ k_ ≠ gb453))) (fun _ hk => hk.2) (.int .i64 a0)) (fun _ hk => hk.2) (.int .i64 x6_1)) (fun _ hk => hk.2) (.int .i64 x7_2)) (fun _ hk => hk.1.2)⟩, ⟨by (with_reducible repeat (first | refine blk_drewN ?_ _ | refine blk_drew ?_ | refine blk_alloc ?_ _)); refine blk_put (cs := #[.int .i64 a0, .int .i64 x6_1, .int .i64 0]) ?_ 2 _ rfl; (with_reducible repeat (first | refine blk_drewN ?_ _ | refine blk_drew ?_ | refine blk_alloc ?_ _)); refine blk_put (cs := #[.int .i64 a0, .int .i64 0, .int .i64 0]) ?_ 1 _ rfl; (with_reducible repeat (first | refine blk_drewN ?_ _ | refine blk_drew ?_ | refine blk_alloc ?_ _)); refine blk_put (cs := #[.int .i64 0, .int .i64 0, .int .i64 0]) ?_ 0 _ rfl; (with_reducible repeat (first | refine blk_drewN ?_ _ | refine blk_drew ?_ | refine blk_alloc ?_ _)); exact BK453.out⟩, ⟨by repeat (first | (with_reducible first | exact HB.out | apply below_alloc | apply pw_below_drewN | apply below_drew1 | refine below_set ?_ GE453.out) | exact HB.out)⟩⟩
              case round =>
                clear H'
                try clear c1
                try clear p2
                try clear c3
                try clear c3b0
                try clear c4
                try clear c4b0
                try clear hcz6_0
                try clear hcz6_1
                try clear hcz6_2
                try clear hfz6_0
                try clear hfz6_1
                try clear hfz6_2
                try clear p2
                obtain ⟨x9_3, x26_3, rfl, rfl, HA, HK3, HO_5, BK453, HB⟩ := hrel
                cases gk with
                | zero => exact absurd HA.out (by simp [spec_pzAll.l2])
                | succ k3 =>
                  have H := HA.out
                  clear HA
                  simp only [spec_pzAll.l2] at H
                  by_cases c7 : x26_3 < (l1.length : Int)
                  · rw [if_pos c7] at H
                    have c7b0 : decide (x26_3 < (l1.length : Int)) = true := decide_eq_true c7
                    clear c7
                    by_cases c8 : 0 ≤ x26_3
                    · rw [if_pos c8] at H
                      have c8b0 : decide (0 ≤ x26_3) = true := decide_eq_true c8
                      clear c8
                      by_cases c9 : x26_3 < (l1.length : Int)
                      · rw [if_pos c9] at H
                        have c9b0 : decide (x26_3 < (l1.length : Int)) = true := decide_eq_true c9
                        clear c9
                        by_cases c10 : x9_3 = true
                        · subst c10
                          have H1 : ((spec_pzFits.f k3 ((rd_T37 l1 x26_3).f0) ((rd_T37 l1 x26_3).f1) ((rd_T37 l1 x26_3).f2) a0 x6_1 x7_2).bind fun t456 => (spec_pzAll.l2 k3 a0 l1 x5_2 x6_1 x7_2 t456 l1 (l1.length : Int) (wrap64 (x26_3 + 1)) a0 x6_1 x7_2)) = some r := by rw [if_pos rfl] at H; exact H
                          clear H
                          have H := H1
                          clear H1
                          replace H := Option.bind_eq_some_iff.mp H
                          obtain ⟨t456, A110, H⟩ := H
                          replace H : (spec_pzAll.l2 k3 a0 l1 x5_2 x6_1 x7_2 t456 l1 (l1.length : Int) (wrap64 (x26_3 + 1)) a0 x6_1 x7_2) = some r := H
                          have A11 := Aside0.mk A110
                          clear A110
                          have H' := Aside0.mk H
                          clear H
                          have p454 : 0 ≤ (x26_3 : Int) := of_decide_eq_true (by first | (with_reducible assumption) | assumption)
                          have q454 : x26_3 < (l1.length : Int) := of_decide_eq_true (by first | (with_reducible assumption) | assumption)
                          obtain ⟨ad454, e454, hx454_0, hx454_1, hx454_2⟩ := at_T37 HR1.out x26_3 p454 q454
                          cases e454
                          replace hx454_0 := (HB.out.cell (World.block_lt_of_cell? w _ hx454_0)).trans hx454_0
                          replace hx454_1 := (HB.out.cell (World.block_lt_of_cell? w _ hx454_1)).trans hx454_1
                          replace hx454_2 := (HB.out.cell (World.block_lt_of_cell? w _ hx454_2)).trans hx454_2
                          replace p454 := eq_true p454
                          replace q454 := eq_true q454
                          go_wp2_with (first | ((with_reducible refine gate_dst (N := 11) rfl ?_); refine box_event ?hg (N := 11) ?hd (cs := #[.int .i64 0, .int .i64 0, .int .i64 0]) (t := 37) ?hr ?_; (case hd => rfl); (case hg => rfl); (case hr => first | (go_simp; done) | (go_simp; rfl)); intro gb455 hg w12 hbox hb; have n0_ := Aside0.mk (Kd.R_below (by (with_reducible repeat (first | apply Kd.R_alloc | apply Kd.R_drewN | apply Kd.R_drew)); exact HO_5.out) hb); have n1_ := Aside0.mk (blk_below (g := gb453) (o := .cells #[.int .i64 a0, .int .i64 x6_1, .int .i64 x7_2] 45 (0, 0)) (by (with_reducible repeat (first | refine blk_drewN ?_ _ | refine blk_drew ?_ | refine blk_alloc ?_ _)); exact BK453.out) hb); have n2_ := Aside0.mk (below_step (by repeat (first | (with_reducible first | exact HB.out | apply below_alloc | apply pw_below_drewN | apply below_drew1 | refine below_set ?_ GE453.out) | exact HB.out)) hb); have n3_ := Aside0.mk (hbox); have n4_ := Aside0.mk ((by rw [hg]; exact (below_size (by repeat (first | (with_reducible first | exact HB.out | apply below_alloc | apply pw_below_drewN | apply below_drew1 | refine below_set ?_ GE453.out) | exact HB.out))) : w.heap.size ≤ gb455)); have n5_ := Aside0.mk ((by rw [hg]; exact (below_size (by repeat (first | (with_reducible first | exact HB.out | apply below_alloc | apply pw_below_drewN | apply below_drew1 | refine below_set ?_ GE453.out) | exact HB.out))) : w.heap.size ≤ gb455)); have n6_ := Aside0.mk ((by rw [hg]; exact Nat.ne_of_lt (blk_lt (g := gb453) (o := .cells #[.int .i64 a0, .int .i64 x6_1, .int .i64 x7_2] 45 (0, 0)) (by (with_reducible repeat (first | refine blk_drewN ?_ _ | refine blk_drew ?_ | refine blk_alloc ?_ _)); exact BK453.out)) : gb453 ≠ gb455)); have n7_ := Aside0.mk ((by rw [hg]; exact Nat.ne_of_gt (blk_lt (g := gb453) (o := .cells #[.int .i64 a0, .int .i64 x6_1, .int .i64 x7_2] 45 (0, 0)) (by (with_reducible repeat (first | refine blk_drewN ?_ _ | refine blk_drew ?_ | refine blk_alloc ?_ _)); exact BK453.out)) : gb455 ≠ gb453)); clear HO_5; clear BK453; clear HB; have HO_5 := n0_; have BK453 := n1_; have HB := n2_; have BK455 := n3_; have GW455 := n4_; have GE455 := n5_; have NB453_455 := n6_; have NB455_453 := n7_; clear n0_ n1_ n2_ n3_ n4_ n5_ n6_ n7_; clear hb hbox hg; have hnb13 := NB455_453.out; have hnc13 := NB453_455.out; have hcz14_0 : w12.cell? ⟨gb455, 0, none⟩ = some (.int .i64 0) := (blk_cell BK455.out 0).trans rfl; have hcz14_1 : w12.cell? ⟨gb455, 1, none⟩ = some (.int .i64 0) := (blk_cell BK455.out 1).trans rfl; have hcz14_2 : w12.cell? ⟨gb455, 2, none⟩ = some (.int .i64 0) := (blk_cell BK455.out 2).trans rfl; have hfz14_0 := blk_frozen BK455.out 0; have hfz14_1 := blk_frozen BK455.out 1; have hfz14_2 := blk_frozen BK455.out 2; have hcz15_0 : w12.cell? ⟨gb453, 0, none⟩ = some (.int .i64 a0) := (blk_cell BK453.out 0).trans rfl; have hcz15_1 : w12.cell? ⟨gb453, 1, none⟩ = some (.int .i64 x6_1) := (blk_cell BK453.out 1).trans rfl; have hcz15_2 : w12.cell? ⟨gb453, 2, none⟩ = some (.int .i64 x7_2) := (blk_cell BK453.out 2).trans rfl; have hfz15_0 := blk_frozen BK453.out 0; have hfz15_1 := blk_frozen BK453.out 1; have hfz15_2 := blk_frozen BK453.out 2) | (go_at_call 66; (with_reducible refine (spec_pzFits.calls k3 ((rd_T37 l1 x26_3).f0) ((rd_T37 l1 x26_3).f1) ((rd_T37 l1 x26_3).f2) a0 x6_1 x7_2 t456 _ A11.out).mono ?_); rintro e w16 ⟨rfl, hb⟩; have n0_ := Aside0.mk (Kd.R_below (by (with_reducible repeat (first | apply Kd.R_alloc | apply Kd.R_drewN | apply Kd.R_drew)); exact (Kd.R_mono (Kd.R_far (p := ⟨gb455, 2, none⟩) (Kd.R_far (p := ⟨gb455, 1, none⟩) (Kd.R_far (p := ⟨gb455, 0, none⟩) (Kd.R_types HO_5.out BK455.out (by decide)) (fun _ hk => hk.2) (.int .i64 ((rd_T37 l1 x26_3).f0))) (fun _ hk => hk.2) (.int .i64 ((rd_T37 l1 x26_3).f1))) (fun _ hk => hk.2) (.int .i64 ((rd_T37 l1 x26_3).f2))) (fun _ h_ => h_.1))) hb); have n1_ := Aside0.mk (blk_below (g := gb453) (o := .cells #[.int .i64 a0, .int .i64 x6_1, .int .i64 x7_2] 45 (0, 0)) (by (with_reducible repeat (first | refine blk_drewN ?_ _ | refine blk_drew ?_ | refine blk_alloc ?_ _)); refine blk_far ?_ NB453_455.out _; (with_reducible repeat (first | refine blk_drewN ?_ _ | refine blk_drew ?_ | refine blk_alloc ?_ _)); refine blk_far ?_ NB453_455.out _; (with_reducible repeat (first | refine blk_drewN ?_ _ | refine blk_drew ?_ | refine blk_alloc ?_ _)); refine blk_far ?_ NB453_455.out _; (with_reducible repeat (first | refine blk_drewN ?_ _ | refine blk_drew ?_ | refine blk_alloc ?_ _)); exact BK453.out) hb); have n2_ := Aside0.mk (blk_below (g := gb455) (o := .cells #[.int .i64 ((rd_T37 l1 x26_3).f0), .int .i64 ((rd_T37 l1 x26_3).f1), .int .i64 ((rd_T37 l1 x26_3).f2)] 37 (0, 0)) (by (with_reducible repeat (first | refine blk_drewN ?_ _ | refine blk_drew ?_ | refine blk_alloc ?_ _)); refine blk_put (cs := #[.int .i64 ((rd_T37 l1 x26_3).f0), .int .i64 ((rd_T37 l1 x26_3).f1), .int .i64 0]) ?_ 2 _ rfl; (with_reducible repeat (first | refine blk_drewN ?_ _ | refine blk_drew ?_ | refine blk_alloc ?_ _)); refine blk_put (cs := #[.int .i64 ((rd_T37 l1 x26_3).f0), .int .i64 0, .int .i64 0]) ?_ 1 _ rfl; (with_reducible repeat (first | refine blk_drewN ?_ _ | refine blk_drew ?_ | refine blk_alloc ?_ _)); refine blk_put (cs := #[.int .i64 0, .int .i64 0, .int .i64 0]) ?_ 0 _ rfl; (with_reducible repeat (first | refine blk_drewN ?_ _ | refine blk_drew ?_ | refine blk_alloc ?_ _)); exact BK455.out) hb); have n3_ := Aside0.mk (below_step (by repeat (first | (with_reducible first | exact HB.out | apply below_alloc | apply pw_below_drewN | apply below_drew1 | refine below_set ?_ GE453.out | refine below_set ?_ GE455.out) | exact HB.out)) hb); clear HO_5; clear BK453; clear BK455; clear HB; have HO_5 := n0_; have BK453 := n1_; have BK455 := n2_; have HB := n3_; clear n0_ n1_ n2_ n3_; (try clear hb); (try clear hb2); (try clear hk); (try clear hi)))
                          go_roundg k3
                          case measure => have := HK1.out; have := HK2.out; have := HK3.out; omega
                          case rel => exact ⟨(t456), (wrap64 (x26_3 + 1)), (by first | rfl | (simp; done) | (simp [*]; done)), (by first | rfl | (simp; done) | (simp [*]; done)), H', ⟨by have := HK1.out; have := HK2.out; have := HK3.out; omega⟩, ⟨by (with_reducible repeat (first | apply Kd.R_alloc | apply Kd.R_drewN | apply Kd.R_drew)); exact HO_5.out⟩, ⟨by (with_reducible repeat (first | refine blk_drewN ?_ _ | refine blk_drew ?_ | refine blk_alloc ?_ _)); exact BK453.out⟩, ⟨by repeat (first | (with_reducible first | exact HB.out | apply below_alloc | apply pw_below_drewN | apply below_drew1 | refine below_set ?_ GE453.out | refine below_set ?_ GE455.out) | exact HB.out)⟩⟩
                        · replace c10 := Bool.eq_false_iff.mpr c10
                          subst c10
                          have H1 : (spec_pzAll.l2 k3 a0 l1 x5_2 x6_1 x7_2 false l1 (l1.length : Int) (wrap64 (x26_3 + 1)) a0 x6_1 x7_2) = some r := by rw [if_neg (show ¬ (false = true) by decide)] at H; exact H
                          clear H
                          have H := H1
                          clear H1
                          have H' := Aside0.mk H
                          clear H
                          have p454 : 0 ≤ (x26_3 : Int) := of_decide_eq_true (by first | (with_reducible assumption) | assumption)
                          have q454 : x26_3 < (l1.length : Int) := of_decide_eq_true (by first | (with_reducible assumption) | assumption)
                          obtain ⟨ad454, e454, hx454_0, hx454_1, hx454_2⟩ := at_T37 HR1.out x26_3 p454 q454
                          cases e454
                          replace hx454_0 := (HB.out.cell (World.block_lt_of_cell? w _ hx454_0)).trans hx454_0
                          replace hx454_1 := (HB.out.cell (World.block_lt_of_cell? w _ hx454_1)).trans hx454_1
                          replace hx454_2 := (HB.out.cell (World.block_lt_of_cell? w _ hx454_2)).trans hx454_2
                          replace p454 := eq_true p454
                          replace q454 := eq_true q454
                          go_wp2_with (first | ((with_reducible refine gate_dst (N := 11) rfl ?_); refine box_event ?hg (N := 11) ?hd (cs := #[.int .i64 0, .int .i64 0, .int .i64 0]) (t := 37) ?hr ?_; (case hd => rfl); (case hg => rfl); (case hr => first | (go_simp; done) | (go_simp; rfl)); intro gb455 hg w17 hbox hb; have n0_ := Aside0.mk (Kd.R_below (by (with_reducible repeat (first | apply Kd.R_alloc | apply Kd.R_drewN | apply Kd.R_drew)); exact HO_5.out) hb); have n1_ := Aside0.mk (blk_below (g := gb453) (o := .cells #[.int .i64 a0, .int .i64 x6_1, .int .i64 x7_2] 45 (0, 0)) (by (with_reducible repeat (first | refine blk_drewN ?_ _ | refine blk_drew ?_ | refine blk_alloc ?_ _)); exact BK453.out) hb); have n2_ := Aside0.mk (below_step (by repeat (first | (with_reducible first | exact HB.out | apply below_alloc | apply pw_below_drewN | apply below_drew1 | refine below_set ?_ GE453.out) | exact HB.out)) hb); have n3_ := Aside0.mk (hbox); have n4_ := Aside0.mk ((by rw [hg]; exact (below_size (by repeat (first | (with_reducible first | exact HB.out | apply below_alloc | apply pw_below_drewN | apply below_drew1 | refine below_set ?_ GE453.out) | exact HB.out))) : w.heap.size ≤ gb455)); have n5_ := Aside0.mk ((by rw [hg]; exact (below_size (by repeat (first | (with_reducible first | exact HB.out | apply below_alloc | apply pw_below_drewN | apply below_drew1 | refine below_set ?_ GE453.out) | exact HB.out))) : w.heap.size ≤ gb455)); have n6_ := Aside0.mk ((by rw [hg]; exact Nat.ne_of_lt (blk_lt (g := gb453) (o := .cells #[.int .i64 a0, .int .i64 x6_1, .int .i64 x7_2] 45 (0, 0)) (by (with_reducible repeat (first | refine blk_drewN ?_ _ | refine blk_drew ?_ | refine blk_alloc ?_ _)); exact BK453.out)) : gb453 ≠ gb455)); have n7_ := Aside0.mk ((by rw [hg]; exact Nat.ne_of_gt (blk_lt (g := gb453) (o := .cells #[.int .i64 a0, .int .i64 x6_1, .int .i64 x7_2] 45 (0, 0)) (by (with_reducible repeat (first | refine blk_drewN ?_ _ | refine blk_drew ?_ | refine blk_alloc ?_ _)); exact BK453.out)) : gb455 ≠ gb453)); clear HO_5; clear BK453; clear HB; have HO_5 := n0_; have BK453 := n1_; have HB := n2_; have BK455 := n3_; have GW455 := n4_; have GE455 := n5_; have NB453_455 := n6_; have NB455_453 := n7_; clear n0_ n1_ n2_ n3_ n4_ n5_ n6_ n7_; clear hb hbox hg; have hnb18 := NB455_453.out; have hnc18 := NB453_455.out; have hcz19_0 : w17.cell? ⟨gb455, 0, none⟩ = some (.int .i64 0) := (blk_cell BK455.out 0).trans rfl; have hcz19_1 : w17.cell? ⟨gb455, 1, none⟩ = some (.int .i64 0) := (blk_cell BK455.out 1).trans rfl; have hcz19_2 : w17.cell? ⟨gb455, 2, none⟩ = some (.int .i64 0) := (blk_cell BK455.out 2).trans rfl; have hfz19_0 := blk_frozen BK455.out 0; have hfz19_1 := blk_frozen BK455.out 1; have hfz19_2 := blk_frozen BK455.out 2))
                          go_roundg k3
                          case measure => have := HK1.out; have := HK2.out; have := HK3.out; omega
                          case rel => exact ⟨(false), (wrap64 (x26_3 + 1)), (by first | rfl | (simp; done) | (simp [*]; done)), (by first | rfl | (simp; done) | (simp [*]; done)), H', ⟨by have := HK1.out; have := HK2.out; have := HK3.out; omega⟩, ⟨by (with_reducible repeat (first | apply Kd.R_alloc | apply Kd.R_drewN | apply Kd.R_drew)); exact Kd.R_mono (Kd.R_far (p := ⟨gb455, 2, none⟩) (Kd.R_far (p := ⟨gb455, 1, none⟩) (Kd.R_far (p := ⟨gb455, 0, none⟩) (Kd.R_types HO_5.out BK455.out (by decide)) (fun _ hk => hk.2) (.int .i64 ((rd_T37 l1 x26_3).f0))) (fun _ hk => hk.2) (.int .i64 ((rd_T37 l1 x26_3).f1))) (fun _ hk => hk.2) (.int .i64 ((rd_T37 l1 x26_3).f2))) (fun _ hk => hk.1)⟩, ⟨by (with_reducible repeat (first | refine blk_drewN ?_ _ | refine blk_drew ?_ | refine blk_alloc ?_ _)); refine blk_far ?_ NB453_455.out _; (with_reducible repeat (first | refine blk_drewN ?_ _ | refine blk_drew ?_ | refine blk_alloc ?_ _)); refine blk_far ?_ NB453_455.out _; (with_reducible repeat (first | refine blk_drewN ?_ _ | refine blk_drew ?_ | refine blk_alloc ?_ _)); refine blk_far ?_ NB453_455.out _; (with_reducible repeat (first | refine blk_drewN ?_ _ | refine blk_drew ?_ | refine blk_alloc ?_ _)); exact BK453.out⟩, ⟨by repeat (first | (with_reducible first | exact HB.out | apply below_alloc | apply pw_below_drewN | apply below_drew1 | refine below_set ?_ GE453.out | refine below_set ?_ GE455.out) | exact HB.out)⟩⟩
                      · rw [if_neg c9] at H
                        exact absurd H (by simp)
                    · rw [if_neg c8] at H
                      exact absurd H (by simp)
                  · rw [if_neg c7] at H
                    have c7b0 : decide (x26_3 < (l1.length : Int)) = false := decide_eq_false c7
                    clear c7
                    by_cases c20 : x9_3 = true
                    · subst c20
                      have H1 : (if x5_2.length < 5864062014805 then (spec_pzAll.l1 k3 a0 l1 (x5_2 ++ [(⟨a0, x6_1, x7_2⟩ : S45)]) x6_1 (wrap64 (x7_2 + 1))) else (none)) = some r := by rw [if_pos rfl] at H; exact H
                      clear H
                      have H := H1
                      clear H1
                      by_cases c21 : x5_2.length < 5864062014805
                      · rw [if_pos c21] at H
                        have LMc21 := Aside0.mk c21
                        clear c21
                        obtain ⟨y457, hy457⟩ : ∃ y_ : List (S45), y_ = (x5_2 ++ [(⟨a0, x6_1, x7_2⟩ : S45)]) := ⟨_, rfl⟩
                        replace H : (spec_pzAll.l1 k3 a0 l1 y457 x6_1 (wrap64 (x7_2 + 1))) = some r := by first | (rw [hy457]; with_reducible exact H) | (have H2_ := (Option.bind_some _ _).symm.trans H; rw [hy457]; with_reducible exact H2_) | (have H2_ := (Option.bind_some _ _).symm.trans H; with_reducible exact H2_) | with_reducible exact H | (rw [hy457]; exact H) | exact H
                        have Ny457 := Aside0.mk hy457
                        clear hy457
                        have H' := Aside0.mk H
                        clear H
                        have hcz22_0 : wr.cell? ⟨gb453, 0, none⟩ = some (.int .i64 a0) := (blk_cell BK453.out 0).trans rfl
                        have hcz22_1 : wr.cell? ⟨gb453, 1, none⟩ = some (.int .i64 x6_1) := (blk_cell BK453.out 1).trans rfl
                        have hcz22_2 : wr.cell? ⟨gb453, 2, none⟩ = some (.int .i64 x7_2) := (blk_cell BK453.out 2).trans rfl
                        have hfz22_0 := blk_frozen BK453.out 0
                        have hfz22_1 := blk_frozen BK453.out 1
                        have hfz22_2 := blk_frozen BK453.out 2
                        go_wp2_with (first | ((with_reducible refine gate_builtin (b := .append) (xs := #[.tmp 38, .tmp 40]) rfl ?_); at_builtin; refine Kd.R_append k45 (w0 := w) w.heap.size rfl (.tmp 38) (.tmp 40) 65 45 (.agg #[(.int .i64 0), (.int .i64 0), (.int .i64 0)]) 24 rfl Try.underlying65 info45 rfl (by decide) (by omega) u5 x5_2 (⟨a0, x6_1, x7_2⟩ : S45) [.int .i64 a0, .int .i64 x6_1, .int .i64 x7_2] (fun k_ => k_ ≠ gb453) (fun _ => False) rfl rfl ?aP (fun _ hk => hk.elim) ?aF ?aO ?aB ?aS ?aL ?_; (case aP => exact k45_mkM _ _ _ (⟨a0, x6_1, x7_2⟩ : S45)); (case aB => exact (by repeat (first | (with_reducible first | exact HB.out | apply below_alloc | apply pw_below_drewN | apply below_drew1 | refine below_set ?_ GE453.out) | exact HB.out))); (case aF => exact (fun k_ hk => Kd.freshB (g := gb453) (o := .cells #[.int .i64 a0, .int .i64 x6_1, .int .i64 x7_2] 45 (0, 0)) (by (with_reducible repeat (first | refine blk_drewN ?_ _ | refine blk_drew ?_ | refine blk_alloc ?_ _)); exact BK453.out) k_ hk)); (case aO => exact (by (with_reducible repeat (first | apply Kd.R_alloc | apply Kd.R_drewN | apply Kd.R_drew)); exact HO_5.out)); (case aS => exact (below_size (by repeat (first | (with_reducible first | exact HB.out | apply below_alloc | apply pw_below_drewN | apply below_drew1 | refine below_set ?_ GE453.out) | exact HB.out)))); (case aL => have := LMc21.out; omega); intro v458 w23 ho hb hg hat; rw [← Ny457.out] at ho; have n0_ := Aside0.mk (blk_grown (g := gb453) (o := .cells #[.int .i64 a0, .int .i64 x6_1, .int .i64 x7_2] 45 (0, 0)) (by (with_reducible repeat (first | refine blk_drewN ?_ _ | refine blk_drew ?_ | refine blk_alloc ?_ _)); exact BK453.out) hg (Kd.R_away HO_5.out (fun _ hk => hk))); have n1_ := Aside0.mk (hb); have n2_ := Aside0.mk (ho); clear BK453; clear HB; clear HO_5; have BK453 := n0_; have HB := n1_; have HO459 := n2_; clear n0_ n1_ n2_; clear ho hb hg hat))
                        go_roundg k3
                        case measure => have := HK1.out; have := HK2.out; have := HK3.out; omega
                        case rel => exact ⟨(y457), (wrap64 (x7_2 + 1)), (by first | rfl | (simp; done) | (simp [*]; done)), H', ⟨by have := HK1.out; have := HK2.out; have := HK3.out; omega⟩, ⟨by (with_reducible repeat (first | apply Kd.R_alloc | apply Kd.R_drewN | apply Kd.R_drew)); exact Kd.R_mono HO459.out (fun _ hk => trivial)⟩, ⟨by repeat (first | (with_reducible first | exact HB.out | apply below_alloc | apply pw_below_drewN | apply below_drew1 | refine below_set ?_ GE453.out) | exact HB.out)⟩⟩
                      · rw [if_neg c21] at H
                        exact absurd H (by simp)
                    · replace c20 := Bool.eq_false_iff.mpr c20
                      subst c20
                      have H1 : (spec_pzAll.l1 k3 a0 l1 x5_2 x6_1 (wrap64 (x7_2 + 1))) = some r := by rw [if_neg (show ¬ (false = true) by decide)] at H; exact H
                      clear H
                      have H := H1
                      clear H1
                      have H' := Aside0.mk H
                      clear H
                      go_wp2
                      go_roundg k3
                      case measure => have := HK1.out; have := HK2.out; have := HK3.out; omega
                      case rel => exact ⟨(x5_2), (wrap64 (x7_2 + 1)), (by first | rfl | (simp; done) | (simp [*]; done)), H', ⟨by have := HK1.out; have := HK2.out; have := HK3.out; omega⟩, ⟨by (with_reducible repeat (first | apply Kd.R_alloc | apply Kd.R_drewN | apply Kd.R_drew)); exact Kd.R_mono HO_5.out (fun _ hk => trivial)⟩, ⟨by repeat (first | (with_reducible first | exact HB.out | apply below_alloc | apply pw_below_drewN | apply below_drew1 | refine below_set ?_ GE453.out) | exact HB.out)⟩⟩
            · rw [if_neg c4] at H
              have c4b0 : decide (x7_2 ≤ 12) = false := decide_eq_false c4
              clear c4
              have H' := Aside0.mk H
              clear H
              go_wp2
              go_roundg k2
              case measure => have := HK1.out; have := HK2.out; omega
              case rel => exact ⟨(x5_2), (wrap64 (x6_1 + 1)), (by first | rfl | (simp; done) | (simp [*]; done)), H', ⟨by have := HK1.out; have := HK2.out; omega⟩, ⟨by (with_reducible repeat (first | apply Kd.R_alloc | apply Kd.R_drewN | apply Kd.R_drew)); exact HO_5.out⟩, ⟨by repeat (first | (with_reducible first | exact HB.out | apply below_alloc | apply pw_below_drewN | apply below_drew1) | exact HB.out)⟩⟩
      · rw [if_neg c3] at H
        have c3b0 : decide (x6_1 ≤ 12) = false := decide_eq_false c3
        clear c3
        obtain rfl := Option.some.inj H
        go_wp2
        go_ret
        exact ⟨_, by first | rfl | (simp [errW_none, errW_some] <;> rfl) | (simp [*, errW_none, errW_some] <;> rfl), by (with_reducible repeat (first | apply Kd.R_alloc | apply Kd.R_drewN | apply Kd.R_drew)); exact HO_5.out, by repeat (first | (with_reducible first | exact HB.out | apply below_alloc | apply pw_below_drewN | apply below_drew1) | exact HB.out)⟩

end Go.Proofs.Ytbdjidjcmmeanaa.P

namespace Go.Proofs.Ytbdjidjcmmeanaa.P
open Go.RowKit Go.Proofs.YtbdjidjcmmeanaaW.PrintWords Go.Proofs.YtbdjidjcmmeanaaW.PrintLast Go.Proofs.YtbdjidjcmmeanaaW.PrintMore
attribute [local go_sem] max2_int min2_int max_two min_two max_three min_three max_four min_four   -- for this text's walks alone
set_option linter.unusedVariables false
set_option linter.unusedSimpArgs false

/-! ### anySolution: function 0 -/
def anySolution.p (k : Nat) (a b c : Int) (x : S37) : Option Bool := (impl_doesFit.f k x.f0 x.f1 x.f2 a b c).bind fun t => some (!t)
def anySolution.f (k : Nat) (l : List S37) (a b c : Int) : Option Bool := cAny (anySolution.p k a b c) l
set_option maxHeartbeats 8000000 in
theorem anySolution.gives (k : Nat) (a b c : Int) (g : Nat) (w : World) (hbox : w.heap[g]? = some (.cells #[.int .i64 a, .int .i64 b, .int .i64 c] 45 (0, 0))) : cGives w 91 #[.pointer (some ⟨g, 0, none⟩)] (anySolution.p k a b c) := by
  intro x r W h hB
  obtain ⟨t, ht, h⟩ := Option.bind_eq_some_iff.1 h
  have HH := Aside0.mk (Option.some.inj h)
  clear h
  have hu1 := Try.underlying37
  have hu2 := Try.underlying45
  have hbW : W.heap[g]? = some (.cells #[.int .i64 a, .int .i64 b, .int .i64 c] 45 (0, 0)) := (hB.block g (Array.getElem?_eq_some_iff.1 hbox).1).trans hbox
  have hc0 : W.cell? ⟨g, 0, none⟩ = some (.int .i64 a) := (blk_cell hbW 0).trans rfl
  have hc1 : W.cell? ⟨g, 1, none⟩ = some (.int .i64 b) := (blk_cell hbW 1).trans rfl
  have hc2 : W.cell? ⟨g, 2, none⟩ = some (.int .i64 c) := (blk_cell hbW 2).trans rfl
  have hlt : g < W.heap.size := (Array.getElem?_eq_some_iff.1 hbW).1
  have hq := fun W' => impl_doesFit.calls k x.f0 x.f1 x.f2 a b c t W' ht
  clear hbox hbW hB ht
  have HB := Aside0.mk (Below.refl W.heap.size W)
  show Calls Try.prog 91 #[.agg #[.int .i64 x.f0, .int .i64 x.f1, .int .i64 x.f2], .pointer (some ⟨g, 0, none⟩)] W _
  go_enter Try.func91, Try.ntmps91
  go_wp2_with (go_at_call 68; refine (hq _).mono ?_; rintro e w' ⟨rfl, hb⟩; have n0_ := Aside0.mk (below_step (by repeat (first | (with_reducible first | exact HB.out | apply below_alloc | apply pw_below_drewN | apply below_drew1) | exact HB.out)) hb); clear HB hb; have HB := n0_; clear n0_)
  go_ret
  exact ⟨by rw [← HH.out]; rfl, by repeat (first | (with_reducible first | exact HB.out | apply below_alloc | apply pw_below_drewN | apply below_drew1) | exact HB.out)⟩
theorem anySolution.calls (k : Nat) (A0 : Option Addr) (c0 : Nat) (l0 : List S37) (a1_0 a1_1 a1_2 : Int) (r : Bool) (w : World) (hr0 : Kd.C k37 w A0 l0.length l0) (hc0 : l0.length ≤ c0) (h : anySolution.f k l0 a1_0 a1_1 a1_2 = some r) (g : Nat) (hbox : w.heap[g]? = some (.cells #[.int .i64 a1_0, .int .i64 a1_1, .int .i64 a1_2] 45 (0, 0))) :
    Calls Try.prog 57 #[.slice A0 l0.length c0, .func (.func 91) #[] #[.pointer (some ⟨g, 0, none⟩)]] w fun e w' => e = .returned (.bool r) ∧ Below w.heap.size w w' :=
  cContainsFunc 91 _ _ (enters_of Try.func91 (by kernel_rfl) rfl) A0 c0 l0 r w (anySolution.gives k a1_0 a1_1 a1_2 g w hbox) hr0 hc0 h


end Go.Proofs.Ytbdjidjcmmeanaa.P

namespace Go.Proofs.Ytbdjidjcmmeanaa.P
open Go.RowKit Go.Proofs.YtbdjidjcmmeanaaW.PrintWords Go.Proofs.YtbdjidjcmmeanaaW.PrintLast Go.Proofs.YtbdjidjcmmeanaaW.PrintMore
attribute [local go_sem] max2_int min2_int max_two min_two max_three min_three max_four min_four   -- for this text's walks alone
set_option linter.unusedVariables false
set_option linter.unusedSimpArgs false

/-! ### impl_solutions: function 80 -/
mutual
def impl_solutions.l0 : Nat → Int → List (S37) → List (S45) → Int → Option ((List (S45)))
  | 0, _, _, _, _ => none
  | k + 1, x0, x1, x5, x6 => if x6 ≤ 12 then (impl_solutions.l1 k x0 x1 x5 x6 1) else (some x5)
def impl_solutions.l1 : Nat → Int → List (S37) → List (S45) → Int → Int → Option ((List (S45)))
  | 0, _, _, _, _, _ => none
  | k + 1, x0, x1, x5, x6, x7 => if x7 ≤ 12 then ((anySolution.f k x1 x0 x6 x7).bind fun t471 => (if t471 = true then (impl_solutions.l1 k x0 x1 x5 x6 (wrap64 (x7 + 1))) else (if x5.length < 5864062014805 then (impl_solutions.l1 k x0 x1 (x5 ++ [(⟨x0, x6, x7⟩ : S45)]) x6 (wrap64 (x7 + 1))) else (none)))) else (impl_solutions.l0 k x0 x1 x5 (wrap64 (x6 + 1)))
end
def impl_solutions.f (k : Nat) (a0 : Int) (l1 : List (S37)) : Option ((List (S45))) := impl_solutions.l0 k a0 l1 (([] : List (S45))) 1
set_option maxHeartbeats 8000000 in
set_option maxRecDepth 100000 in
theorem impl_solutions.calls (k : Nat) (a0 : Int) (A1 : Option Addr) (c1 : Nat) (l1 : List (S37)) (r : List (S45)) (w : World) (hr1 : Kd.C k37 w A1 l1.length l1) (hc1 : l1.length ≤ c1) (h : impl_solutions.f k a0 l1 = some r) :
    Calls Try.prog 80 #[.int .i64 a0, .slice A1 l1.length c1] w fun e w' => ∃ v0_ : Value, e = .returned (v0_) ∧ Kd.R k45 45 w' w.heap.size (fun _ => True) v0_ r ∧ Below w.heap.size w w' := by
  have hu45 := Try.underlying45
  have HR1 := Aside0.mk hr1
  have HC1 := Aside0.mk hc1
  clear hr1 hc1
  have HB := Aside0.mk (Below.refl w.heap.size w)
  have H : (impl_solutions.l0 k a0 l1 (([] : List (S45))) 1) = some r := h
  clear h
  obtain ⟨y467, hy467⟩ : ∃ y_ : List (S45), y_ = (([] : List (S45))) := ⟨_, rfl⟩
  replace H : (impl_solutions.l0 k a0 l1 y467 1) = some r := by first | (rw [hy467]; with_reducible exact H) | (have H2_ := (Option.bind_some _ _).symm.trans H; rw [hy467]; with_reducible exact H2_) | (have H2_ := (Option.bind_some _ _).symm.trans H; with_reducible exact H2_) | with_reducible exact H | (rw [hy467]; exact H) | exact H
  have Ny467 := Aside0.mk hy467
  clear hy467
  have H' := Aside0.mk H
  clear H
  go_enter Try.func80, Try.ntmps80
  go_wp2_with (first | ((with_reducible refine gate_dst (N := 9) rfl ?_); refine Kd.R_lit k45 _ 45 ?hg (N := 9) ?hd (xs := ([] : List (S45))) (inner := []) (ok := fun _ => True) (okp := fun _ => True) ?hr ?hp (fun _ hk => hk) trivial (Below.refl _ _) (Nat.le_refl _) (by simp) ?_; (case hd => rfl); (case hg => rfl); (case hr => first | (go_simp; done) | (go_simp; rfl)); (case hp => exact (Reps.none _ _)); intro v468 w3 ho4 hb hg_ hnew_; clear hg_ hnew_; (first | rw [← Ny467.out] at ho4 | (simp only [Int.reduceToNat] at ho4; rw [← Ny467.out] at ho4)); have n0_ := Aside0.mk (Kd.R_lower ho4 (below_size (by repeat (first | (with_reducible first | exact HB.out | apply below_alloc | apply pw_below_drewN | apply below_drew1) | exact HB.out)))); have n1_ := Aside0.mk (below_step (by repeat (first | (with_reducible first | exact HB.out | apply below_alloc | apply pw_below_drewN | apply below_drew1) | exact HB.out)) hb); clear HB; have HO469 := n0_; have HB := n1_; clear n0_ n1_; clear hb ho4))
  go_loopg [5, 6] k (fun kq v5 v6 w' => ∃ (x5_1 : List (S45)) (x6_1 : Int), v6 = .int .i64 x6_1 ∧ Aside0 (impl_solutions.l0 kq a0 l1 x5_1 x6_1 = some r) ∧ Aside0 (kq ≤ k) ∧ Aside0 (Kd.R k45 45 w' w.heap.size (fun _ => True) v5 x5_1) ∧ Aside0 (Below w.heap.size w w'))
  case atStart => exact ⟨(y467), (1), (by first | rfl | (simp; done) | (simp [*]; done)), H', ⟨Nat.le_refl _⟩, ⟨by (with_reducible repeat (first | apply Kd.R_alloc | apply Kd.R_drewN | apply Kd.R_drew)); exact HO469.out⟩, ⟨by repeat (first | (with_reducible first | exact HB.out | apply below_alloc | apply pw_below_drewN | apply below_drew1) | exact HB.out)⟩⟩
  case round =>
    clear H'
    try clear c1
    try clear p2
    obtain ⟨x5_1, x6_1, rfl, HA, HK1, HO_5, HB⟩ := hrel
    cases gk with
    | zero => exact absurd HA.out (by simp [impl_solutions.l0])
    | succ k1 =>
      have H := HA.out
      clear HA
      simp only [impl_solutions.l0] at H
      by_cases c5 : x6_1 ≤ 12
      · rw [if_pos c5] at H
        have c5b0 : decide (x6_1 ≤ 12) = true := decide_eq_true c5
        clear c5
        have H' := Aside0.mk H
        clear H
        go_wp2
        go_loopg [5, 7] k1 (fun kq v5 v7 w' => ∃ (x5_2 : List (S45)) (x7_2 : Int), v7 = .int .i64 x7_2 ∧ Aside0 (impl_solutions.l1 kq a0 l1 x5_2 x6_1 x7_2 = some r) ∧ Aside0 (kq ≤ k1) ∧ Aside0 (Kd.R k45 45 w' w.heap.size (fun _ => True) v5 x5_2) ∧ Aside0 (Below w.heap.size w w'))
        case atStart => exact ⟨(x5_1), (1), (by first | rfl | (simp; done) | (simp [*]; done)), H', ⟨Nat.le_refl _⟩, ⟨by (with_reducible repeat (first | apply Kd.R_alloc | apply Kd.R_drewN | apply Kd.R_drew)); exact HO_5.out⟩, ⟨by repeat (first | (with_reducible first | exact HB.out | apply below_alloc | apply pw_below_drewN | apply below_drew1) | exact HB.out)⟩⟩
        case round =>
          clear H'
          try clear c1
          try clear p2
          try clear c5
          try clear c5b0
          try clear p2
          obtain ⟨x5_2, x7_2, rfl, HA, HK2, HO_5, HB⟩ := hrel
          cases gk with
          | zero => exact absurd HA.out (by simp [impl_solutions.l1])
          | succ k2 =>
            have H := HA.out
            clear HA
            simp only [impl_solutions.l1] at H
            by_cases c6 : x7_2 ≤ 12
            · rw [if_pos c6] at H
              have c6b0 : decide (x7_2 ≤ 12) = true := decide_eq_true c6
              clear c6
              replace H := Option.bind_eq_some_iff.mp H
              obtain ⟨t471, A70, H⟩ := H
              replace H : (if t471 = true then (impl_solutions.l1 k2 a0 l1 x5_2 x6_1 (wrap64 (x7_2 + 1))) else (if x5_2.length < 5864062014805 then (impl_solutions.l1 k2 a0 l1 (x5_2 ++ [(⟨a0, x6_1, x7_2⟩ : S45)]) x6_1 (wrap64 (x7_2 + 1))) else (none))) = some r := H
              have A7 := Aside0.mk A70
              clear A70
              by_cases c8 : t471 = true
              · subst c8
                have H1 : (impl_solutions.l1 k2 a0 l1 x5_2 x6_1 (wrap64 (x7_2 + 1))) = some r := by rw [if_pos rfl] at H; exact H
                clear H
                have H := H1
                clear H1
                have H' := Aside0.mk H
                clear H
                go_wp2_with (first | ((with_reducible refine gate_dst (N := 8) rfl ?_); refine box_event ?hg (N := 8) ?hd (cs := #[.int .i64 0, .int .i64 0, .int .i64 0]) (t := 45) ?hr ?_; (case hd => rfl); (case hg => rfl); (case hr => first | (go_simp; done) | (go_simp; rfl)); intro gb470 hg w9 hbox hb; have n0_ := Aside0.mk (Kd.R_below (Kd.R_elderB (by (with_reducible repeat (first | apply Kd.R_alloc | apply Kd.R_drewN | apply Kd.R_drew)); exact HO_5.out) gb470 (Nat.le_of_eq hg.symm)) hb); have n1_ := Aside0.mk (below_step (by repeat (first | (with_reducible first | exact HB.out | apply below_alloc | apply pw_below_drewN | apply below_drew1) | exact HB.out)) hb); have n2_ := Aside0.mk (hbox); have n3_ := Aside0.mk ((by rw [hg]; exact (below_size (by repeat (first | (with_reducible first | exact HB.out | apply below_alloc | apply pw_below_drewN | apply below_drew1) | exact HB.out))) : w.heap.size ≤ gb470)); have n4_ := Aside0.mk ((by rw [hg]; exact (below_size (by repeat (first | (with_reducible first | exact HB.out | apply below_alloc | apply pw_below_drewN | apply below_drew1) | exact HB.out))) : w.heap.size ≤ gb470)); clear HO_5; clear HB; have HO_5 := n0_; have HB := n1_; have BK470 := n2_; have GW470 := n3_; have GE470 := n4_; clear n0_ n1_ n2_ n3_ n4_; clear hb hbox hg; have hcz10_0 : w9.cell? ⟨gb470, 0, none⟩ = some (.int .i64 0) := (blk_cell BK470.out 0).trans rfl; have hcz10_1 : w9.cell? ⟨gb470, 1, none⟩ = some (.int .i64 0) := (blk_cell BK470.out 1).trans rfl; have hcz10_2 : w9.cell? ⟨gb470, 2, none⟩ = some (.int .i64 0) := (blk_cell BK470.out 2).trans rfl; have hfz10_0 := blk_frozen BK470.out 0; have hfz10_1 := blk_frozen BK470.out 1; have hfz10_2 := blk_frozen BK470.out 2) | ((with_reducible refine gate_callee (f := 57) rfl ?_); refine goesL_ (some 24) rfl rfl Try.func57 (by kernel_rfl) rfl #[.slice A1 l1.length c1, .func (.func 91) #[] #[.pointer (some ⟨gb470, 0, none⟩)]] rfl (by (try simp only [List.map_toArray, List.map_cons, List.map_nil]); first | done | rfl | (simp only [List.length_drop, List.length_take]; rfl)) ?_; (with_reducible refine (anySolution.calls k2 _ _ l1 a0 x6_1 x7_2 true _ ?side1 ?side2 A7.out gb470 ?sideB).mono ?_); (case sideB => exact (by (with_reducible repeat (first | refine blk_drewN ?_ _ | refine blk_drew ?_ | refine blk_alloc ?_ _)); refine blk_put (cs := #[.int .i64 a0, .int .i64 x6_1, .int .i64 0]) ?_ 2 _ rfl; (with_reducible repeat (first | refine blk_drewN ?_ _ | refine blk_drew ?_ | refine blk_alloc ?_ _)); refine blk_put (cs := #[.int .i64 a0, .int .i64 0, .int .i64 0]) ?_ 1 _ rfl; (with_reducible repeat (first | refine blk_drewN ?_ _ | refine blk_drew ?_ | refine blk_alloc ?_ _)); refine blk_put (cs := #[.int .i64 0, .int .i64 0, .int .i64 0]) ?_ 0 _ rfl; (with_reducible repeat (first | refine blk_drewN ?_ _ | refine blk_drew ?_ | refine blk_alloc ?_ _)); exact BK470.out)); (case side1 => exact Kd.C_below HR1.out (by repeat (first | (with_reducible first | exact HB.out | apply below_alloc | apply pw_below_drewN | apply below_drew1 | refine below_set ?_ GE470.out) | exact HB.out))); (case side2 => exact HC1.out); rintro e w11 ⟨rfl, hb⟩; refine ⟨_, rfl, ?_⟩; have n0_ := Aside0.mk (Kd.R_below (by (with_reducible repeat (first | apply Kd.R_alloc | apply Kd.R_drewN | apply Kd.R_drew)); exact (Kd.R_mono (Kd.R_far (p := ⟨gb470, 2, none⟩) (Kd.R_far (p := ⟨gb470, 1, none⟩) (Kd.R_far (p := ⟨gb470, 0, none⟩) (Kd.R_mono HO_5.out (fun k_ hk => (⟨hk, hk.2⟩ : _ ∧ k_ ≠ gb470))) (fun _ hk => hk.2) (.int .i64 a0)) (fun _ hk => hk.2) (.int .i64 x6_1)) (fun _ hk => hk.2) (.int .i64 x7_2)) (fun _ h_ => h_.1))) hb); have n1_ := Aside0.mk (blk_below (g := gb470) (o := .cells #[.int .i64 a0, .int .i64 x6_1, .int .i64 x7_2] 45 (0, 0)) (by (with_reducible repeat (first | refine blk_drewN ?_ _ | refine blk_drew ?_ | refine blk_alloc ?_ _)); refine blk_put (cs := #[.int .i64 a0, .int .i64 x6_1, .int .i64 0]) ?_ 2 _ rfl; (with_reducible repeat (first | refine blk_drewN ?_ _ | refine blk_drew ?_ | refine blk_alloc ?_ _)); refine blk_put (cs := #[.int .i64 a0, .int .i64 0, .int .i64 0]) ?_ 1 _ rfl; (with_reducible repeat (first | refine blk_drewN ?_ _ | refine blk_drew ?_ | refine blk_alloc ?_ _)); refine blk_put (cs := #[.int .i64 0, .int .i64 0, .int .i64 0]) ?_ 0 _ rfl; (with_reducible repeat (first | refine blk_drewN ?_ _ | refine blk_drew ?_ | refine blk_alloc ?_ _)); exact BK470.out) hb); have n2_ := Aside0.mk (below_step (by repeat (first | (with_reducible first | exact HB.out | apply below_alloc | apply pw_below_drewN | apply below_drew1 | refine below_set ?_ GE470.out) | exact HB.out)) hb); clear HO_5; clear BK470; clear HB; have HO_5 := n0_; have BK470 := n1_; have HB := n2_; clear n0_ n1_ n2_; (try clear hb); (try clear hb2); (try clear hk); (try clear hi)))
                go_roundg k2
                case measure => have := HK1.out; have := HK2.out; omega
                case rel => exact ⟨(x5_2), (wrap64 (x7_2 + 1)), (by first | rfl | (simp; done) | (simp [*]; done)), H', ⟨by have := HK1.out; have := HK2.out; omega⟩, ⟨by (with_reducible repeat (first | apply Kd.R_alloc | apply Kd.R_drewN | apply Kd.R_drew)); exact Kd.R_mono HO_5.out (fun _ hk => trivial)⟩, ⟨by repeat (first | (with_reducible first | exact HB.out | apply below_alloc | apply pw_below_drewN | apply below_drew1 | refine below_set ?_ GE470.out) | exact HB.out)⟩⟩
              · replace c8 := Bool.eq_false_iff.mpr c8
                subst c8
                have H1 : (if x5_2.length < 5864062014805 then (impl_solutions.l1 k2 a0 l1 (x5_2 ++ [(⟨a0, x6_1, x7_2⟩ : S45)]) x6_1 (wrap64 (x7_2 + 1))) else (none)) = some r := by rw [if_neg (show ¬ (false = true) by decide)] at H; exact H
                clear H
                have H := H1
                clear H1
                by_cases c12 : x5_2.length < 5864062014805
                · rw [if_pos c12] at H
                  have LMc12 := Aside0.mk c12
                  clear c12
                  obtain ⟨y472, hy472⟩ : ∃ y_ : List (S45), y_ = (x5_2 ++ [(⟨a0, x6_1, x7_2⟩ : S45)]) := ⟨_, rfl⟩
                  replace H : (impl_solutions.l1 k2 a0 l1 y472 x6_1 (wrap64 (x7_2 + 1))) = some r := by first | (rw [hy472]; with_reducible exact H) | (have H2_ := (Option.bind_some _ _).symm.trans H; rw [hy472]; with_reducible exact H2_) | (have H2_ := (Option.bind_some _ _).symm.trans H; with_reducible exact H2_) | with_reducible exact H | (rw [hy472]; exact H) | exact H
                  have Ny472 := Aside0.mk hy472
                  clear hy472
                  have H' := Aside0.mk H
                  clear H
                  go_wp2_with (first | ((with_reducible refine gate_dst (N := 8) rfl ?_); refine box_event ?hg (N := 8) ?hd (cs := #[.int .i64 0, .int .i64 0, .int .i64 0]) (t := 45) ?hr ?_; (case hd => rfl); (case hg => rfl); (case hr => first | (go_simp; done) | (go_simp; rfl)); intro gb470 hg w13 hbox hb; have n0_ := Aside0.mk (Kd.R_below (Kd.R_elderB (by (with_reducible repeat (first | apply Kd.R_alloc | apply Kd.R_drewN | apply Kd.R_drew)); exact HO_5.out) gb470 (Nat.le_of_eq hg.symm)) hb); have n1_ := Aside0.mk (below_step (by repeat (first | (with_reducible first | exact HB.out | apply below_alloc | apply pw_below_drewN | apply below_drew1) | exact HB.out)) hb); have n2_ := Aside0.mk (hbox); have n3_ := Aside0.mk ((by rw [hg]; exact (below_size (by repeat (first | (with_reducible first | exact HB.out | apply below_alloc | apply pw_below_drewN | apply below_drew1) | exact HB.out))) : w.heap.size ≤ gb470)); have n4_ := Aside0.mk ((by rw [hg]; exact (below_size (by repeat (first | (with_reducible first | exact HB.out | apply below_alloc | apply pw_below_drewN | apply below_drew1) | exact HB.out))) : w.heap.size ≤ gb470)); clear HO_5; clear HB; have HO_5 := n0_; have HB := n1_; have BK470 := n2_; have GW470 := n3_; have GE470 := n4_; clear n0_ n1_ n2_ n3_ n4_; clear hb hbox hg; have hcz14_0 : w13.cell? ⟨gb470, 0, none⟩ = some (.int .i64 0) := (blk_cell BK470.out 0).trans rfl; have hcz14_1 : w13.cell? ⟨gb470, 1, none⟩ = some (.int .i64 0) := (blk_cell BK470.out 1).trans rfl; have hcz14_2 : w13.cell? ⟨gb470, 2, none⟩ = some (.int .i64 0) := (blk_cell BK470.out 2).trans rfl; have hfz14_0 := blk_frozen BK470.out 0; have hfz14_1 := blk_frozen BK470.out 1; have hfz14_2 := blk_frozen BK470.out 2) | ((with_reducible refine gate_callee (f := 57) rfl ?_); refine goesL_ (some 24) rfl rfl Try.func57 (by kernel_rfl) rfl #[.slice A1 l1.length c1, .func (.func 91) #[] #[.pointer (some ⟨gb470, 0, none⟩)]] rfl (by (try simp only [List.map_toArray, List.map_cons, List.map_nil]); first | done | rfl | (simp only [List.length_drop, List.length_take]; rfl)) ?_; (with_reducible refine (anySolution.calls k2 _ _ l1 a0 x6_1 x7_2 false _ ?side1 ?side2 A7.out gb470 ?sideB).mono ?_); (case sideB => exact (by (with_reducible repeat (first | refine blk_drewN ?_ _ | refine blk_drew ?_ | refine blk_alloc ?_ _)); refine blk_put (cs := #[.int .i64 a0, .int .i64 x6_1, .int .i64 0]) ?_ 2 _ rfl; (with_reducible repeat (first | refine blk_drewN ?_ _ | refine blk_drew ?_ | refine blk_alloc ?_ _)); refine blk_put (cs := #[.int .i64 a0, .int .i64 0, .int .i64 0]) ?_ 1 _ rfl; (with_reducible repeat (first | refine blk_drewN ?_ _ | refine blk_drew ?_ | refine blk_alloc ?_ _)); refine blk_put (cs := #[.int .i64 0, .int .i64 0, .int .i64 0]) ?_ 0 _ rfl; (with_reducible repeat (first | refine blk_drewN ?_ _ | refine blk_drew ?_ | refine blk_alloc ?_ _)); exact BK470.out)); (case side1 => exact Kd.C_below HR1.out (by repeat (first | (with_reducible first | exact HB.out | apply below_alloc | apply pw_below_drewN | apply below_drew1 | refine below_set ?_ GE470.out) | exact HB.out))); (case side2 => exact HC1.out); rintro e w15 ⟨rfl, hb⟩; refine ⟨_, rfl, ?_⟩; have n0_ := Aside0.mk (Kd.R_below (by (with_reducible repeat (first | apply Kd.R_alloc | apply Kd.R_drewN | apply Kd.R_drew)); exact (Kd.R_mono (Kd.R_far (p := ⟨gb470, 2, none⟩) (Kd.R_far (p := ⟨gb470, 1, none⟩) (Kd.R_far (p := ⟨gb470, 0, none⟩) (Kd.R_mono HO_5.out (fun k_ hk => (⟨hk, hk.2⟩ : _ ∧ k_ ≠ gb470))) (fun _ hk => hk.2) (.int .i64 a0)) (fun _ hk => hk.2) (.int .i64 x6_1)) (fun _ hk => hk.2) (.int .i64 x7_2)) (fun _ h_ => h_.1))) hb); have n1_ := Aside0.mk (blk_below (g := gb470) (o := .cells #[.int .i64 a0, .int .i64 x6_1, .int .i64 x7_2] 45 (0, 0)) (by (with_reducible repeat (first | refine blk_drewN ?_ _ | refine blk_drew ?_ | refine blk_alloc ?_ _)); refine blk_put (cs := #[.int .i64 a0, .int .i64 x6_1, .int .i64 0]) ?_ 2 _ rfl; (with_reducible repeat (first | refine blk_drewN ?_ _ | refine blk_drew ?_ | refine blk_alloc ?_ _)); refine blk_put (cs := #[.int .i64 a0, .int .i64 0, .int .i64 0]) ?_ 1 _ rfl; (with_reducible repeat (first | refine blk_drewN ?_ _ | refine blk_drew ?_ | refine blk_alloc ?_ _)); refine blk_put (cs := #[.int .i64 0, .int .i64 0, .int .i64 0]) ?_ 0 _ rfl; (with_reducible repeat (first | refine blk_drewN ?_ _ | refine blk_drew ?_ | refine blk_alloc ?_ _)); exact BK470.out) hb); have n2_ := Aside0.mk (below_step (by repeat (first | (with_reducible first | exact HB.out | apply below_alloc | apply pw_below_drewN | apply below_drew1 | refine below_set ?_ GE470.out) | exact HB.out)) hb); clear HO_5; clear BK470; clear HB; have HO_5 := n0_; have BK470 := n1_; have HB := n2_; clear n0_ n1_ n2_; (try clear hb); (try clear hb2); (try clear hk); (try clear hi); have hcz16_0 : w15.cell? ⟨gb470, 0, none⟩ = some (.int .i64 a0) := (blk_cell BK470.out 0).trans rfl; have hcz16_1 : w15.cell? ⟨gb470, 1, none⟩ = some (.int .i64 x6_1) := (blk_cell BK470.out 1).trans rfl; have hcz16_2 : w15.cell? ⟨gb470, 2, none⟩ = some (.int .i64 x7_2) := (blk_cell BK470.out 2).trans rfl; have hfz16_0 := blk_frozen BK470.out 0; have hfz16_1 := blk_frozen BK470.out 1; have hfz16_2 := blk_frozen BK470.out 2) | ((with_reducible refine gate_builtin (b := .append) (xs := #[.tmp 26, .tmp 28]) rfl ?_); at_builtin; refine Kd.R_append k45 (w0 := w) w.heap.size rfl (.tmp 26) (.tmp 28) 65 45 (.agg #[(.int .i64 0), (.int .i64 0), (.int .i64 0)]) 24 rfl Try.underlying65 info45 rfl (by decide) (by omega) u5 x5_2 (⟨a0, x6_1, x7_2⟩ : S45) [.int .i64 a0, .int .i64 x6_1, .int .i64 x7_2] (fun k_ => k_ ≠ gb470) (fun _ => False) rfl rfl ?aP (fun _ hk => hk.elim) ?aF ?aO ?aB ?aS ?aL ?_; (case aP => exact k45_mkM _ _ _ (⟨a0, x6_1, x7_2⟩ : S45)); (case aB => exact (by repeat (first | (with_reducible first | exact HB.out | apply below_alloc | apply pw_below_drewN | apply below_drew1 | refine below_set ?_ GE470.out) | exact HB.out))); (case aF => exact (fun k_ hk => Kd.freshB (g := gb470) (o := .cells #[.int .i64 a0, .int .i64 x6_1, .int .i64 x7_2] 45 (0, 0)) (by (with_reducible repeat (first | refine blk_drewN ?_ _ | refine blk_drew ?_ | refine blk_alloc ?_ _)); exact BK470.out) k_ hk)); (case aO => exact (by (with_reducible repeat (first | apply Kd.R_alloc | apply Kd.R_drewN | apply Kd.R_drew)); exact Kd.R_mono HO_5.out (fun _ hk => hk.2))); (case aS => exact (below_size (by repeat (first | (with_reducible first | exact HB.out | apply below_alloc | apply pw_below_drewN | apply below_drew1 | refine below_set ?_ GE470.out) | exact HB.out)))); (case aL => have := LMc12.out; omega); intro v473 w17 ho hb hg hat; rw [← Ny472.out] at ho; have n0_ := Aside0.mk (blk_grown (g := gb470) (o := .cells #[.int .i64 a0, .int .i64 x6_1, .int .i64 x7_2] 45 (0, 0)) (by (with_reducible repeat (first | refine blk_drewN ?_ _ | refine blk_drew ?_ | refine blk_alloc ?_ _)); exact BK470.out) hg (Kd.R_away HO_5.out (fun _ hk => hk.2))); have n1_ := Aside0.mk (hb); have n2_ := Aside0.mk (ho); clear BK470; clear HB; clear HO_5; have BK470 := n0_; have HB := n1_; have HO474 := n2_; clear n0_ n1_ n2_; clear ho hb hg hat))
                  go_roundg k2
                  case measure => have := HK1.out; have := HK2.out; omega
                  case rel => exact ⟨(y472), (wrap64 (x7_2 + 1)), (by first | rfl | (simp; done) | (simp [*]; done)), H', ⟨by have := HK1.out; have := HK2.out; omega⟩, ⟨by (with_reducible repeat (first | apply Kd.R_alloc | apply Kd.R_drewN | apply Kd.R_drew)); exact Kd.R_mono HO474.out (fun _ hk => trivial)⟩, ⟨by repeat (first | (with_reducible first | exact HB.out | apply below_alloc | apply pw_below_drewN | apply below_drew1 | refine below_set ?_ GE470.out) | exact HB.out)⟩⟩
                · rw [if_neg c12] at H
                  exact absurd H (by simp)
            · rw [if_neg c6] at H
              have c6b0 : decide (x7_2 ≤ 12) = false := decide_eq_false c6
              clear c6
              have H' := Aside0.mk H
              clear H
              go_wp2
              go_roundg k2
              case measure => have := HK1.out; have := HK2.out; omega
              case rel => exact ⟨(x5_2), (wrap64 (x6_1 + 1)), (by first | rfl | (simp; done) | (simp [*]; done)), H', ⟨by have := HK1.out; have := HK2.out; omega⟩, ⟨by (with_reducible repeat (first | apply Kd.R_alloc | apply Kd.R_drewN | apply Kd.R_drew)); exact HO_5.out⟩, ⟨by repeat (first | (with_reducible first | exact HB.out | apply below_alloc | apply pw_below_drewN | apply below_drew1) | exact HB.out)⟩⟩
      · rw [if_neg c5] at H
        have c5b0 : decide (x6_1 ≤ 12) = false := decide_eq_false c5
        clear c5
        obtain rfl := Option.some.inj H
        go_wp2
        go_ret
        exact ⟨_, by first | rfl | (simp [errW_none, errW_some] <;> rfl) | (simp [*, errW_none, errW_some] <;> rfl), by (with_reducible repeat (first | apply Kd.R_alloc | apply Kd.R_drewN | apply Kd.R_drew)); exact HO_5.out, by repeat (first | (with_reducible first | exact HB.out | apply below_alloc | apply pw_below_drewN | apply below_drew1) | exact HB.out)⟩

end Go.Proofs.Ytbdjidjcmmeanaa.P

namespace Go.Proofs.Ytbdjidjcmmeanaa.P
open Go.RowKit Go.Proofs.YtbdjidjcmmeanaaW.PrintWords Go.Proofs.YtbdjidjcmmeanaaW.PrintLast Go.Proofs.YtbdjidjcmmeanaaW.PrintMore
set_option linter.unusedVariables false
set_option linter.unusedSimpArgs false
def mkL (w : Int) (i j : Nat) : S45 := ⟨w, (i : Int) + 1, (j : Int) + 1⟩
def fitsAll (l : List S37) (x : S45) : Bool := l.all fun c => mFits c.f0 c.f1 c.f2 x.f0 x.f1 x.f2
/-- From place j on in the row of the left height i + 1. -/
def mRow (w : Int) (l : List S37) (i j : Nat) : List S45 := ((List.range' j (12 - j)).map (mkL w i)).filter (fitsAll l)
def mRows (w : Int) (l : List S37) (i : Nat) : List S45 := (List.range' i (12 - i)).flatMap fun i => mRow w l i 0
/-- All hidden ladders that fit the clues, in order. -/
def mSols (w : Int) (l : List S37) : List S45 := mRows w l 0
theorem mRow_step (w : Int) (l : List S37) (i j : Nat) (h : j < 12) : mRow w l i j = (if fitsAll l (mkL w i j) = true then [mkL w i j] else []) ++ mRow w l i (j + 1) := by
  unfold mRow
  rw [show 12 - j = (12 - (j + 1)) + 1 by omega, List.range'_succ, List.map_cons, List.filter_cons]
  split <;> simp
theorem mRow_end (w : Int) (l : List S37) (i j : Nat) (h : 12 ≤ j) : mRow w l i j = [] := by
  unfold mRow; rw [show 12 - j = 0 by omega]; rfl
theorem mRows_step (w : Int) (l : List S37) (i : Nat) (h : i < 12) : mRows w l i = mRow w l i 0 ++ mRows w l (i + 1) := by
  unfold mRows
  rw [show 12 - i = (12 - (i + 1)) + 1 by omega, List.range'_succ, List.flatMap_cons]
theorem mRows_end (w : Int) (l : List S37) (i : Nat) (h : 12 ≤ i) : mRows w l i = [] := by
  unfold mRows; rw [show 12 - i = 0 by omega]; rfl
theorem mRow_len (w : Int) (l : List S37) (i j : Nat) : (mRow w l i j).length ≤ 12 - j := by
  unfold mRow
  exact Nat.le_trans (List.length_filter_le _ _) (by simp)
theorem mRows_len (w : Int) (l : List S37) : ∀ (d i : Nat), i + d = 12 → (mRows w l i).length ≤ 12 * d
  | 0, i, h => by rw [mRows_end w l i (by omega)]; simp
  | d + 1, i, h => by
    rw [mRows_step w l i (by omega), List.length_append]
    have := mRow_len w l i 0
    have := mRows_len w l d (i + 1) (by omega)
    omega
theorem mSols_len (w : Int) (l : List S37) : (mSols w l).length ≤ 144 := mRows_len w l 12 0 (by omega)
theorem anySolution.ev (w : Int) (l : List S37) (a b : Int) (h : mHidden w a b = true) (hc : l.all mClueS = true) : Ev (fun k => anySolution.f k l w a b) (!(fitsAll l ⟨w, a, b⟩)) := by
  refine ev_eq (r := l.any fun c => !(mFits c.f0 c.f1 c.f2 w a b)) ?_ (by unfold fitsAll; rw [List.not_all_eq_any_not])
  unfold anySolution.f
  refine cAny_ev l (fun x hx => ?_)
  unfold anySolution.p
  exact Ev.bind (impl_doesFit.ev _ _ _ _ _ _ h (List.all_eq_true.1 hc x hx)) (Ev.now _)
theorem hid_mk {w : Int} (hw : inr 1 12 w = true) {i j : Nat} (hi : i < 12) (hj : j < 12) : mHidden w ((i : Int) + 1) ((j : Int) + 1) = true := by
  have := inr_iff.1 hw
  exact mHidden_iff.2 (by omega)
theorem impl_solutions.ev_r (w : Int) (l : List S37) (hw : inr 1 12 w = true) (hc : l.all mClueS = true) (r : List S45) (i : Nat) (hi : i < 12) (d : Nat) : ∀ (j : Nat) (out : List S45), j + d = 12 → out.length ≤ 12 * i + j → Ev (fun k => impl_solutions.l0 k w l (out ++ mRow w l i j) ((i + 1 : Nat) + 1 : Int)) r → Ev (fun k => impl_solutions.l1 k w l out ((i : Int) + 1) ((j : Int) + 1)) r := by
  induction d with
  | zero =>
    intro j out hj ho h
    rw [mRow_end w l i j (by omega), List.append_nil] at h
    refine Ev.succ ?_
    simp only [impl_solutions.l1, show ¬ ((j : Int) + 1 ≤ 12) by omega, if_false]
    rw [wid (show -9223372036854775808 ≤ (i : Int) + 1 + 1 by omega) (by omega)]
    exact h
  | succ d ih =>
    intro j out hj ho h
    rw [mRow_step w l i j (by omega)] at h
    refine Ev.succ ?_
    simp only [impl_solutions.l1, show ((j : Int) + 1 ≤ 12) by omega, if_true]
    refine Ev.bind (anySolution.ev w l _ _ (hid_mk hw hi (by omega)) hc) ?_
    rw [wid (show -9223372036854775808 ≤ (j : Int) + 1 + 1 by omega) (by omega)]
    by_cases hf : fitsAll l (mkL w i j) = true
    · rw [if_pos hf] at h
      simp only [show fitsAll l ⟨w, (i : Int) + 1, (j : Int) + 1⟩ = true from hf, Bool.not_true, Bool.false_eq_true, if_false, show out.length < 5864062014805 by omega, if_true]
      exact ih (j + 1) (out ++ [mkL w i j]) (by omega) (by simp; omega) (by rw [List.append_assoc]; exact h)
    · rw [if_neg hf, List.nil_append] at h
      simp only [show fitsAll l ⟨w, (i : Int) + 1, (j : Int) + 1⟩ = false from Bool.eq_false_iff.mpr hf, Bool.not_false, if_true]
      exact ih (j + 1) out (by omega) (by omega) h
theorem impl_solutions.ev_l (w : Int) (l : List S37) (hw : inr 1 12 w = true) (hc : l.all mClueS = true) (d : Nat) : ∀ (i : Nat) (out : List S45), i + d = 12 → out.length ≤ 12 * i → Ev (fun k => impl_solutions.l0 k w l out ((i : Int) + 1)) (out ++ mRows w l i) := by
  induction d with
  | zero =>
    intro i out hi ho
    rw [mRows_end w l i (by omega), List.append_nil]
    refine Ev.succ ?_
    simp only [impl_solutions.l0, show ¬ ((i : Int) + 1 ≤ 12) by omega, if_false]
    exact Ev.now _
  | succ d ih =>
    intro i out hi ho
    rw [mRows_step w l i (by omega)]
    refine Ev.succ ?_
    simp only [impl_solutions.l0, show ((i : Int) + 1 ≤ 12) by omega, if_true]
    have hl := mRow_len w l i 0
    have h := ih (i + 1) (out ++ mRow w l i 0) (by omega) (by rw [List.length_append]; omega)
    rw [List.append_assoc] at h
    exact impl_solutions.ev_r w l hw hc _ i (by omega) 12 0 out (by omega) (by omega) h
theorem impl_solutions.ev {w : Int} {l : List S37} (hw : inr 1 12 w = true) (hc : l.all mClueS = true) : Ev (fun k => impl_solutions.f k w l) (mSols w l) := by
  unfold impl_solutions.f
  exact impl_solutions.ev_l w l hw hc 12 0 [] (by omega) (by simp)
theorem spec_pzAll.ev_c (w : Int) (l : List S37) (hl : l.length ≤ 4611686018427387904) (out : List S45) (a b : Int) (h : mHidden w a b = true) (ho : out.length < 5864062014805) (r : List S45) (d : Nat) : ∀ (t : Nat) (x9 : Bool), t + d = l.length →
    Ev (fun k => spec_pzAll.l1 k w l (if (x9 && (l.drop t).all fun c => mFits c.f0 c.f1 c.f2 w a b) = true then out ++ [⟨w, a, b⟩] else out) a (wrap64 (b + 1))) r → Ev (fun k => spec_pzAll.l2 k w l out a b x9 l (l.length : Int) (t : Int) w a b) r := by
  induction d with
  | zero =>
    intro t x9 ht hr
    rw [show t = l.length by omega, List.drop_length] at hr
    refine Ev.succ ?_
    simp only [spec_pzAll.l2, show ¬ ((t : Int) < (l.length : Int)) by omega, if_false]
    cases x9 with
    | true => simp only [if_true, if_pos ho]; simpa using hr
    | false => simp only [Bool.false_eq_true, if_false]; simpa using hr
  | succ d ih =>
    intro t x9 ht hr
    have hlt : t < l.length := by omega
    have e : rd_T37 l (t : Int) = l[t] := by simp [rd_T37, List.getD_eq_getElem?_getD, List.getElem?_eq_getElem hlt]
    rw [List.drop_eq_getElem_cons hlt, List.all_cons] at hr
    refine Ev.succ ?_
    simp only [spec_pzAll.l2, show ((t : Int) < (l.length : Int)) by omega, show (0 : Int) ≤ (t : Int) by omega, if_true, e]
    rw [wid (show -9223372036854775808 ≤ (t : Int) + 1 by omega) (by omega)]
    cases x9 with
    | true =>
      simp only [if_true]
      refine Ev.bind (spec_pzFits.ev _ _ _ w a b h) ?_
      exact ih (t + 1) _ (by omega) (by simpa using hr)
    | false =>
      simp only [Bool.false_eq_true, if_false]
      exact ih (t + 1) false (by omega) (by simpa using hr)
theorem spec_pzAll.ev_r (w : Int) (l : List S37) (hl : l.length ≤ 4611686018427387904) (hw : inr 1 12 w = true) (r : List S45) (i : Nat) (hi : i < 12) (d : Nat) : ∀ (j : Nat) (out : List S45), j + d = 12 → out.length ≤ 12 * i + j → Ev (fun k => spec_pzAll.l0 k w l (out ++ mRow w l i j) ((i + 1 : Nat) + 1 : Int)) r → Ev (fun k => spec_pzAll.l1 k w l out ((i : Int) + 1) ((j : Int) + 1)) r := by
  induction d with
  | zero =>
    intro j out hj ho h
    rw [mRow_end w l i j (by omega), List.append_nil] at h
    refine Ev.succ ?_
    simp only [spec_pzAll.l1, show ¬ ((j : Int) + 1 ≤ 12) by omega, if_false]
    rw [wid (show -9223372036854775808 ≤ (i : Int) + 1 + 1 by omega) (by omega)]
    exact h
  | succ d ih =>
    intro j out hj ho h
    rw [mRow_step w l i j (by omega)] at h
    refine Ev.succ ?_
    simp only [spec_pzAll.l1, show ((j : Int) + 1 ≤ 12) by omega, if_true]
    refine spec_pzAll.ev_c w l hl out _ _ (hid_mk hw hi (by omega)) (by omega) r l.length 0 true (by omega) ?_
    rw [wid (show -9223372036854775808 ≤ (j : Int) + 1 + 1 by omega) (by omega)]
    simp only [List.drop_zero, Bool.true_and]
    by_cases hf : fitsAll l (mkL w i j) = true
    · rw [if_pos hf] at h
      rw [if_pos (show (l.all fun c => mFits c.f0 c.f1 c.f2 w ((i : Int) + 1) ((j : Int) + 1)) = true from hf)]
      exact ih (j + 1) (out ++ [mkL w i j]) (by omega) (by simp; omega) (by rw [List.append_assoc]; exact h)
    · rw [if_neg hf, List.nil_append] at h
      rw [if_neg (show ¬ (l.all fun c => mFits c.f0 c.f1 c.f2 w ((i : Int) + 1) ((j : Int) + 1)) = true from hf)]
      exact ih (j + 1) out (by omega) (by omega) h
theorem spec_pzAll.ev_l (w : Int) (l : List S37) (hl : l.length ≤ 4611686018427387904) (hw : inr 1 12 w = true) (d : Nat) : ∀ (i : Nat) (out : List S45), i + d = 12 → out.length ≤ 12 * i → Ev (fun k => spec_pzAll.l0 k w l out ((i : Int) + 1)) (out ++ mRows w l i) := by
  induction d with
  | zero =>
    intro i out hi ho
    rw [mRows_end w l i (by omega), List.append_nil]
    refine Ev.succ ?_
    simp only [spec_pzAll.l0, show ¬ ((i : Int) + 1 ≤ 12) by omega, if_false]
    exact Ev.now _
  | succ d ih =>
    intro i out hi ho
    rw [mRows_step w l i (by omega)]
    refine Ev.succ ?_
    simp only [spec_pzAll.l0, show ((i : Int) + 1 ≤ 12) by omega, if_true]
    have hl2 := mRow_len w l i 0
    have h := ih (i + 1) (out ++ mRow w l i 0) (by omega) (by rw [List.length_append]; omega)
    rw [List.append_assoc] at h
    exact spec_pzAll.ev_r w l hl hw _ i (by omega) 12 0 out (by omega) (by omega) h
theorem spec_pzAll.ev {w : Int} {l : List S37} (hl : l.length ≤ 4611686018427387904) (hw : inr 1 12 w = true) : Ev (fun k => spec_pzAll.f k w l) (mSols w l) := by
  unfold spec_pzAll.f
  exact spec_pzAll.ev_l w l hl hw 12 0 [] (by omega) (by simp)
end Go.Proofs.Ytbdjidjcmmeanaa.P

namespace Go.Proofs.Ytbdjidjcmmeanaa.P
open Go.RowKit Go.Proofs.YtbdjidjcmmeanaaW.PrintWords Go.Proofs.YtbdjidjcmmeanaaW.PrintLast Go.Proofs.YtbdjidjcmmeanaaW.PrintMore
attribute [local go_sem] max2_int min2_int max_two min_two max_three min_three max_four min_four   -- for this text's walks alone
set_option linter.unusedVariables false
set_option linter.unusedSimpArgs false

/-! ### impl_Solutions: function 49 -/
def impl_Solutions.f (k : Nat) (a0_0 : Int) (l0_1 : List (S37)) : Option ((List (S45)) × Bool) := (impl_IsPuzzle.f k a0_0 l0_1).bind fun t507 => (if t507 = true then ((impl_solutions.f k a0_0 l0_1).bind fun t508 => (some (t508, true))) else (some (([] : List (S45)), false)))
set_option maxHeartbeats 8000000 in
set_option maxRecDepth 100000 in
theorem impl_Solutions.calls (k : Nat) (a0_0 : Int) (A0_1 : Option Addr) (c0_1 : Nat) (l0_1 : List (S37)) (r1 : List (S45)) (r2 : Bool) (w : World) (hr0_1 : Kd.C k37 w A0_1 l0_1.length l0_1) (hc0_1 : l0_1.length ≤ c0_1) (h : impl_Solutions.f k a0_0 l0_1 = some (r1, r2)) :
    Calls Try.prog 49 #[.agg #[.int .i64 a0_0, .slice A0_1 l0_1.length c0_1]] w fun e w' => ∃ v0_ : Value, e = .returned (.tuple #[v0_, .bool r2]) ∧ Kd.R k45 45 w' w.heap.size (fun _ => True) v0_ r1 ∧ Below w.heap.size w w' := by
  have hu29 := Try.underlying29
  have HR0_1 := Aside0.mk hr0_1
  have HC0_1 := Aside0.mk hc0_1
  clear hr0_1 hc0_1
  have HB := Aside0.mk (Below.refl w.heap.size w)
  have H : ((impl_IsPuzzle.f k a0_0 l0_1).bind fun t507 => (if t507 = true then ((impl_solutions.f k a0_0 l0_1).bind fun t508 => (some (t508, true))) else (some (([] : List (S45)), false)))) = some (r1, r2) := h
  clear h
  replace H := Option.bind_eq_some_iff.mp H
  obtain ⟨t507, A20, H⟩ := H
  replace H : (if t507 = true then ((impl_solutions.f k a0_0 l0_1).bind fun t508 => (some (t508, true))) else (some (([] : List (S45)), false))) = some (r1, r2) := H
  have A2 := Aside0.mk A20
  clear A20
  by_cases c3 : t507 = true
  · subst c3
    have H1 : ((impl_solutions.f k a0_0 l0_1).bind fun t508 => (some (t508, true))) = some (r1, r2) := by rw [if_pos rfl] at H; exact H
    clear H
    have H := H1
    clear H1
    replace H := Option.bind_eq_some_iff.mp H
    obtain ⟨t508, A40, H⟩ := H
    replace H : (some (t508, true)) = some (r1, r2) := H
    have A4 := Aside0.mk A40
    clear A40
    simp only [Option.some.injEq, Prod.mk.injEq] at H
    obtain ⟨rfl, rfl⟩ := H
    go_enter Try.func49, Try.ntmps49
    go_wp2_with (first | ((with_reducible refine gate_dst (N := 1) rfl ?_); refine box_event ?hg (N := 1) ?hd (cs := #[.int .i64 a0_0, .slice A0_1 l0_1.length c0_1]) (t := 29) ?hr ?_; (case hd => rfl); (case hg => rfl); (case hr => first | (go_simp; done) | (go_simp; rfl)); intro gb506 hg w5 hbox hb; have n0_ := Aside0.mk (below_step (by repeat (first | (with_reducible first | exact HB.out | apply below_alloc | apply pw_below_drewN | apply below_drew1) | exact HB.out)) hb); have n1_ := Aside0.mk (hbox); have n2_ := Aside0.mk ((by rw [hg]; exact (below_size (by repeat (first | (with_reducible first | exact HB.out | apply below_alloc | apply pw_below_drewN | apply below_drew1) | exact HB.out))) : w.heap.size ≤ gb506)); have n3_ := Aside0.mk ((by rw [hg]; exact (below_size (by repeat (first | (with_reducible first | exact HB.out | apply below_alloc | apply pw_below_drewN | apply below_drew1) | exact HB.out))) : w.heap.size ≤ gb506)); clear HB; have HB := n0_; have BK506 := n1_; have GW506 := n2_; have GE506 := n3_; clear n0_ n1_ n2_ n3_; clear hb hbox hg; have hcz6_0 : w5.cell? ⟨gb506, 0, none⟩ = some (.int .i64 a0_0) := (blk_cell BK506.out 0).trans rfl; have hcz6_1 : w5.cell? ⟨gb506, 1, none⟩ = some (.slice A0_1 l0_1.length c0_1) := (blk_cell BK506.out 1).trans rfl; have hfz6_0 := blk_frozen BK506.out 0; have hfz6_1 := blk_frozen BK506.out 1) | ((with_reducible refine gate_callee (f := 18) rfl ?_); refine goesL_ (some 5) rfl rfl Try.func18 (by kernel_rfl) rfl #[.agg #[.int .i64 a0_0, .slice A0_1 l0_1.length c0_1]] rfl (by (try simp only [List.map_toArray, List.map_cons, List.map_nil]); first | done | rfl | (simp only [List.length_drop, List.length_take]; rfl)) ?_; (with_reducible refine (impl_IsPuzzle.calls k a0_0 _ _ l0_1 true _ ?side1 ?side2 A2.out).mono ?_); (case side1 => repeat (first | exact (Kd.C_below HR0_1.out HB.out) | (with_reducible refine Kd.C_alloc ?_ _) | (with_reducible refine Kd.C_drewN ?_ _) | (with_reducible refine Kd.C_drew ?_))); (case side2 => exact HC0_1.out); rintro e w7 ⟨rfl, hb⟩; refine ⟨_, rfl, ?_⟩; have n0_ := Aside0.mk (blk_below (g := gb506) (o := .cells #[.int .i64 a0_0, .slice A0_1 l0_1.length c0_1] 29 (0, 0)) (by (with_reducible repeat (first | refine blk_drewN ?_ _ | refine blk_drew ?_ | refine blk_alloc ?_ _)); exact BK506.out) hb); have n1_ := Aside0.mk (below_step (by repeat (first | (with_reducible first | exact HB.out | apply below_alloc | apply pw_below_drewN | apply below_drew1 | refine below_set ?_ GE506.out) | exact HB.out)) hb); clear BK506; clear HB; have BK506 := n0_; have HB := n1_; clear n0_ n1_; (try clear hb); (try clear hb2); (try clear hk); (try clear hi); have hcz8_0 : w7.cell? ⟨gb506, 0, none⟩ = some (.int .i64 a0_0) := (blk_cell BK506.out 0).trans rfl; have hcz8_1 : w7.cell? ⟨gb506, 1, none⟩ = some (.slice A0_1 l0_1.length c0_1) := (blk_cell BK506.out 1).trans rfl; have hfz8_0 := blk_frozen BK506.out 0; have hfz8_1 := blk_frozen BK506.out 1) | ((with_reducible refine gate_callee (f := 80) rfl ?_); refine goesL_ (some 11) rfl rfl Try.func80 (by kernel_rfl) rfl #[.int .i64 a0_0, .slice A0_1 l0_1.length c0_1] rfl (by (try simp only [List.map_toArray, List.map_cons, List.map_nil]); first | done | rfl | (simp only [List.length_drop, List.length_take]; rfl)) ?_; (with_reducible refine (impl_solutions.calls k a0_0 _ _ l0_1 t508 _ ?side1 ?side2 A4.out).mono ?_); (case side1 => repeat (first | exact (Kd.C_below HR0_1.out HB.out) | (with_reducible refine Kd.C_alloc ?_ _) | (with_reducible refine Kd.C_drewN ?_ _) | (with_reducible refine Kd.C_drew ?_))); (case side2 => exact HC0_1.out); rintro e w9 ⟨v509, rfl, ho0, hb⟩; refine ⟨_, rfl, ?_⟩; have n0_ := Aside0.mk (Kd.R_lower ho0 (below_size (by repeat (first | (with_reducible first | exact HB.out | apply below_alloc | apply pw_below_drewN | apply below_drew1 | refine below_set ?_ GE506.out) | exact HB.out)))); have n1_ := Aside0.mk (blk_below (g := gb506) (o := .cells #[.int .i64 a0_0, .slice A0_1 l0_1.length c0_1] 29 (0, 0)) (by (with_reducible repeat (first | refine blk_drewN ?_ _ | refine blk_drew ?_ | refine blk_alloc ?_ _)); exact BK506.out) hb); have n2_ := Aside0.mk (below_step (by repeat (first | (with_reducible first | exact HB.out | apply below_alloc | apply pw_below_drewN | apply below_drew1 | refine below_set ?_ GE506.out) | exact HB.out)) hb); clear BK506; clear HB; have HO510 := n0_; have BK506 := n1_; have HB := n2_; clear n0_ n1_ n2_; (try clear hb); (try clear hb2); (try clear hk); (try clear hi); (try clear ho0)))
    go_ret2
    exact ⟨_, by first | rfl | (simp [errW_none, errW_some] <;> rfl) | (simp [*, errW_none, errW_some] <;> rfl), by (with_reducible repeat (first | apply Kd.R_alloc | apply Kd.R_drewN | apply Kd.R_drew)); exact HO510.out, by repeat (first | (with_reducible first | exact HB.out | apply below_alloc | apply pw_below_drewN | apply below_drew1 | refine below_set ?_ GE506.out) | exact HB.out)⟩
  · replace c3 := Bool.eq_false_iff.mpr c3
    subst c3
    have H1 : (some (([] : List (S45)), false)) = some (r1, r2) := by rw [if_neg (show ¬ (false = true) by decide)] at H; exact H
    clear H
    have H := H1
    clear H1
    simp only [Option.some.injEq, Prod.mk.injEq] at H
    obtain ⟨rfl, rfl⟩ := H
    go_enter Try.func49, Try.ntmps49
    go_wp2_with (first | ((with_reducible refine gate_dst (N := 1) rfl ?_); refine box_event ?hg (N := 1) ?hd (cs := #[.int .i64 a0_0, .slice A0_1 l0_1.length c0_1]) (t := 29) ?hr ?_; (case hd => rfl); (case hg => rfl); (case hr => first | (go_simp; done) | (go_simp; rfl)); intro gb506 hg w10 hbox hb; have n0_ := Aside0.mk (below_step (by repeat (first | (with_reducible first | exact HB.out | apply below_alloc | apply pw_below_drewN | apply below_drew1) | exact HB.out)) hb); have n1_ := Aside0.mk (hbox); have n2_ := Aside0.mk ((by rw [hg]; exact (below_size (by repeat (first | (with_reducible first | exact HB.out | apply below_alloc | apply pw_below_drewN | apply below_drew1) | exact HB.out))) : w.heap.size ≤ gb506)); have n3_ := Aside0.mk ((by rw [hg]; exact (below_size (by repeat (first | (with_reducible first | exact HB.out | apply below_alloc | apply pw_below_drewN | apply below_drew1) | exact HB.out))) : w.heap.size ≤ gb506)); clear HB; have HB := n0_; have BK506 := n1_; have GW506 := n2_; have GE506 := n3_; clear n0_ n1_ n2_ n3_; clear hb hbox hg; have hcz11_0 : w10.cell? ⟨gb506, 0, none⟩ = some (.int .i64 a0_0) := (blk_cell BK506.out 0).trans rfl; have hcz11_1 : w10.cell? ⟨gb506, 1, none⟩ = some (.slice A0_1 l0_1.length c0_1) := (blk_cell BK506.out 1).trans rfl; have hfz11_0 := blk_frozen BK506.out 0; have hfz11_1 := blk_frozen BK506.out 1) | ((with_reducible refine gate_callee (f := 18) rfl ?_); refine goesL_ (some 5) rfl rfl Try.func18 (by kernel_rfl) rfl #[.agg #[.int .i64 a0_0, .slice A0_1 l0_1.length c0_1]] rfl (by (try simp only [List.map_toArray, List.map_cons, List.map_nil]); first | done | rfl | (simp only [List.length_drop, List.length_take]; rfl)) ?_; (with_reducible refine (impl_IsPuzzle.calls k a0_0 _ _ l0_1 false _ ?side1 ?side2 A2.out).mono ?_); (case side1 => repeat (first | exact (Kd.C_below HR0_1.out HB.out) | (with_reducible refine Kd.C_alloc ?_ _) | (with_reducible refine Kd.C_drewN ?_ _) | (with_reducible refine Kd.C_drew ?_))); (case side2 => exact HC0_1.out); rintro e w12 ⟨rfl, hb⟩; refine ⟨_, rfl, ?_⟩; have n0_ := Aside0.mk (blk_below (g := gb506) (o := .cells #[.int .i64 a0_0, .slice A0_1 l0_1.length c0_1] 29 (0, 0)) (by (with_reducible repeat (first | refine blk_drewN ?_ _ | refine blk_drew ?_ | refine blk_alloc ?_ _)); exact BK506.out) hb); have n1_ := Aside0.mk (below_step (by repeat (first | (with_reducible first | exact HB.out | apply below_alloc | apply pw_below_drewN | apply below_drew1 | refine below_set ?_ GE506.out) | exact HB.out)) hb); clear BK506; clear HB; have BK506 := n0_; have HB := n1_; clear n0_ n1_; (try clear hb); (try clear hb2); (try clear hk); (try clear hi)))
    go_ret2
    exact ⟨_, by first | rfl | (simp [errW_none, errW_some] <;> rfl) | (simp [*, errW_none, errW_some] <;> rfl), by first | exact Kd.R_nil _ _ _ _ _ | exact Kd.N_nil _ _ _ _ _ | exact Kd.V_nil _ _ _ _ _ | exact Kd.Q_nil _ _ _ _ _ | exact Kd.S_nil _ _ _ _ _, by repeat (first | (with_reducible first | exact HB.out | apply below_alloc | apply pw_below_drewN | apply below_drew1 | refine below_set ?_ GE506.out) | exact HB.out)⟩

end Go.Proofs.Ytbdjidjcmmeanaa.P

namespace Go.Proofs.Ytbdjidjcmmeanaa.P
open Go.RowKit Go.Proofs.YtbdjidjcmmeanaaW.PrintWords Go.Proofs.YtbdjidjcmmeanaaW.PrintLast Go.Proofs.YtbdjidjcmmeanaaW.PrintMore
set_option linter.unusedVariables false
set_option linter.unusedSimpArgs false
theorem mPuzzle_parts {w : Int} {l : List S37} (h : mPuzzle w l = true) : inr 1 12 w = true ∧ l.length ≤ 6 ∧ l.all mClueS = true := by
  unfold mPuzzle at h
  simp only [Bool.and_eq_true, decide_eq_true_eq] at h
  exact h
def mSolutions (w : Int) (l : List S37) : List S45 × Bool := if mPuzzle w l = true then (mSols w l, true) else ([], false)
theorem impl_Solutions.ev (w : Int) (l : List S37) : Ev (fun k => impl_Solutions.f k w l) (mSolutions w l) := by
  unfold impl_Solutions.f mSolutions
  refine Ev.bind (impl_IsPuzzle.ev w l) ?_
  refine Ev.ite (fun h => ?_) (fun _ => Ev.now _)
  obtain ⟨h1, h2, h3⟩ := mPuzzle_parts h
  exact Ev.bind (impl_solutions.ev h1 h3) (Ev.now _)
end Go.Proofs.Ytbdjidjcmmeanaa.P
