/- The law FnExactLeftByClues is proved: a call of it returns true and leaves its arguments as they were; and what this needs. Every input that the given rows speak of; nothing else is asked. -/
import Derived.Test.YtbdjidjcmmeanaaM0
import Derived.Test.YtbdjidjcmmeanaaM1
import Derived.Test.YtbdjidjcmmeanaaM6
import Derived.Test.YtbdjidjcmmeanaaM16
import Derived.Test.YtbdjidjcmmeanaaM13
import Derived.Test.YtbdjidjcmmeanaaRows
import Derived.WalkKit
import Derived.ProofKit
import Derived.OpenShut
import Derived.ShutString
import Derived.ChangeOld
import Derived.Below
import Derived.SizedLaws
import Derived.Deep.Slices
import Derived.Deep.Fields
import Derived.ChangeSame
import Derived.Lib.SmallJoins
import Derived.Test.YtbdjidjcmmeanaaWSized
namespace Go.Proofs.Ytbdjidjcmmeanaa.P
open Go.RowKit Go.Proofs.YtbdjidjcmmeanaaW.PrintWords Go.Proofs.YtbdjidjcmmeanaaW.PrintLast Go.Proofs.YtbdjidjcmmeanaaW.PrintMore
attribute [local go_sem] max2_int min2_int max_two min_two max_three min_three max_four min_four   -- for this text's walks alone
set_option linter.unusedVariables false
set_option linter.unusedSimpArgs false

/-! ### spec_LeftByClues: function 43 -/
def spec_LeftByClues.l0 : Nat → List Int → Int → Int → List (S37) → Option (List Int × Bool)
  | 0, _, _, _, _ => none
  | k + 1, x4, x5, x660000, x660001 => if x5 ≤ (x660001.length : Int) then (if 0 ≤ x5 then ((spec_pzAll.f k x660000 (x660001.take (x5 : Int).toNat)).bind fun t665 => (if x4.length < 17592186044416 then (spec_LeftByClues.l0 k (x4 ++ [(t665.length : Int)]) (wrap64 (x5 + 1)) x660000 x660001) else (none))) else (none)) else (some (x4, true))
def spec_LeftByClues.f (k : Nat) (a0_0 : Int) (l0_1 : List (S37)) : Option (List Int × Bool) := (spec_pzGood.f k a0_0 l0_1).bind fun t660 => (if t660 = true then (spec_LeftByClues.l0 k ([] : List Int) 0 a0_0 l0_1) else (some (([] : List Int), false)))
def spec_LeftByClues.T7 : Bool × List (List Nat × List Nat) := (true, [([], []), ([], []), ([1], [1]), ([], []), ([3], [3]), ([], []), ([4, 5], [4, 5]), ([2, 6], [2, 6]), ([7], [7]), ([8], [8]), ([0, 9, 7], [0, 9]), ([10, 10, 0, 1, 2, 3, 4, 5, 6, 7, 8, 9, 10], [0, 10])])
def spec_LeftByClues.B7 : List Nat := [0, 0, 2, 0, 8, 0, 56, 126, 254, 510, 1023, 2047]
theorem spec_LeftByClues.tab7 : rtab .any (opsOf Try.f43 7) = spec_LeftByClues.T7 := by kernel_rfl
theorem spec_LeftByClues.bits7 : waitsOk spec_LeftByClues.T7.2 spec_LeftByClues.B7 = true := by kernel_rfl
set_option maxHeartbeats 8000000 in
set_option maxRecDepth 100000 in
theorem spec_LeftByClues.calls (k : Nat) (a0_0 : Int) (A0_1 : Option Addr) (c0_1 : Nat) (l0_1 : List (S37)) (r1 : List Int) (r2 : Bool) (w : World) (hr0_1 : Kd.C k37 w A0_1 l0_1.length l0_1) (hc0_1 : l0_1.length ≤ c0_1) (h : spec_LeftByClues.f k a0_0 l0_1 = some (r1, r2)) :
    Calls Try.prog 43 #[.agg #[.int .i64 a0_0, .slice A0_1 l0_1.length c0_1]] w fun e w' => ∃ v0_ : Value, e = .returned (.tuple #[v0_, .bool r2]) ∧ Kd.R (Kd.int .i64) 3 w' w.heap.size (fun _ => True) v0_ r1 ∧ Below w.heap.size w w' := by
  have hu29 := Try.underlying29
  have HR0_1 := Aside0.mk hr0_1
  have HC0_1 := Aside0.mk hc0_1
  clear hr0_1 hc0_1
  have HB := Aside0.mk (Below.refl w.heap.size w)
  have H : ((spec_pzGood.f k a0_0 l0_1).bind fun t660 => (if t660 = true then (spec_LeftByClues.l0 k ([] : List Int) 0 a0_0 l0_1) else (some (([] : List Int), false)))) = some (r1, r2) := h
  clear h
  replace H := Option.bind_eq_some_iff.mp H
  obtain ⟨t660, A20, H⟩ := H
  replace H : (if t660 = true then (spec_LeftByClues.l0 k ([] : List Int) 0 a0_0 l0_1) else (some (([] : List Int), false))) = some (r1, r2) := H
  have A2 := Aside0.mk A20
  clear A20
  by_cases c3 : t660 = true
  · subst c3
    have H1 : (spec_LeftByClues.l0 k ([] : List Int) 0 a0_0 l0_1) = some (r1, r2) := by rw [if_pos rfl] at H; exact H
    clear H
    have H := H1
    clear H1
    have H' := Aside0.mk H
    clear H
    go_enter Try.func43, Try.ntmps43
    go_wp2_with (first | ((with_reducible refine gate_dst (N := 1) rfl ?_); refine box_event ?hg (N := 1) ?hd (cs := #[.int .i64 a0_0, .slice A0_1 l0_1.length c0_1]) (t := 29) ?hr ?_; (case hd => rfl); (case hg => rfl); (case hr => first | (go_simp; done) | (go_simp; rfl)); intro gb659 hg w4 hbox hb; have n0_ := Aside0.mk (below_step (by repeat (first | (with_reducible first | exact HB.out | apply below_alloc | apply pw_below_drewN | apply below_drew1) | exact HB.out)) hb); have n1_ := Aside0.mk (hbox); have n2_ := Aside0.mk ((by rw [hg]; exact (below_size (by repeat (first | (with_reducible first | exact HB.out | apply below_alloc | apply pw_below_drewN | apply below_drew1) | exact HB.out))) : w.heap.size ≤ gb659)); have n3_ := Aside0.mk ((by rw [hg]; exact (below_size (by repeat (first | (with_reducible first | exact HB.out | apply below_alloc | apply pw_below_drewN | apply below_drew1) | exact HB.out))) : w.heap.size ≤ gb659)); clear HB; have HB := n0_; have BK659 := n1_; have GW659 := n2_; have GE659 := n3_; clear n0_ n1_ n2_ n3_; clear hb hbox hg; have hcz5_0 : w4.cell? ⟨gb659, 0, none⟩ = some (.int .i64 a0_0) := (blk_cell BK659.out 0).trans rfl; have hcz5_1 : w4.cell? ⟨gb659, 1, none⟩ = some (.slice A0_1 l0_1.length c0_1) := (blk_cell BK659.out 1).trans rfl; have hfz5_0 := blk_frozen BK659.out 0; have hfz5_1 := blk_frozen BK659.out 1) | ((with_reducible refine gate_callee (f := 54) rfl ?_); refine goesL_ (some 7) rfl rfl Try.func54 (by kernel_rfl) rfl #[.agg #[.int .i64 a0_0, .slice A0_1 l0_1.length c0_1]] rfl (by (try simp only [List.map_toArray, List.map_cons, List.map_nil]); first | done | rfl | (simp only [List.length_drop, List.length_take]; rfl)) ?_; (with_reducible refine (spec_pzGood.calls k a0_0 _ _ l0_1 true _ ?side1 ?side2 A2.out).mono ?_); (case side1 => repeat (first | exact (Kd.C_below HR0_1.out HB.out) | (with_reducible refine Kd.C_alloc ?_ _) | (with_reducible refine Kd.C_drewN ?_ _) | (with_reducible refine Kd.C_drew ?_))); (case side2 => exact HC0_1.out); rintro e w6 ⟨rfl, hb⟩; refine ⟨_, rfl, ?_⟩; have n0_ := Aside0.mk (blk_below (g := gb659) (o := .cells #[.int .i64 a0_0, .slice A0_1 l0_1.length c0_1] 29 (0, 0)) (by (with_reducible repeat (first | refine blk_drewN ?_ _ | refine blk_drew ?_ | refine blk_alloc ?_ _)); exact BK659.out) hb); have n1_ := Aside0.mk (below_step (by repeat (first | (with_reducible first | exact HB.out | apply below_alloc | apply pw_below_drewN | apply below_drew1 | refine below_set ?_ GE659.out) | exact HB.out)) hb); clear BK659; clear HB; have BK659 := n0_; have HB := n1_; clear n0_ n1_; (try clear hb); (try clear hb2); (try clear hk); (try clear hi)))
    go_loopg [4, 5] k (fun kq v4 v5 w' => ∃ (x4_1 : List Int) (x5_1 : Int), v5 = .int .i64 x5_1 ∧ Aside0 (spec_LeftByClues.l0 kq x4_1 x5_1 a0_0 l0_1 = some (r1, r2)) ∧ Aside0 (kq ≤ k) ∧ Aside0 (Kd.R (Kd.int .i64) 3 w' w.heap.size (fun _ => True) v4 x4_1) ∧ Aside0 (w'.heap[gb659]? = some (.cells #[.int .i64 a0_0, (.slice A0_1 l0_1.length c0_1)] 29 (0, 0))) ∧ Aside0 (Below w.heap.size w w'))
    case atStart => exact ⟨(([] : List Int)), (0), (by first | rfl | (simp; done) | (simp [*]; done)), H', ⟨Nat.le_refl _⟩, ⟨by first | exact Kd.R_nil _ _ _ _ _ | exact Kd.N_nil _ _ _ _ _ | exact Kd.V_nil _ _ _ _ _ | exact Kd.Q_nil _ _ _ _ _ | exact Kd.S_nil _ _ _ _ _⟩, ⟨by (with_reducible repeat (first | refine blk_drewN ?_ _ | refine blk_drew ?_ | refine blk_alloc ?_ _)); exact BK659.out⟩, ⟨by repeat (first | (with_reducible first | exact HB.out | apply below_alloc | apply pw_below_drewN | apply below_drew1 | refine below_set ?_ GE659.out) | exact HB.out)⟩⟩
    case round =>
      clear H'
      try clear p2
      try clear c3
      try clear c4
      try clear c5
      try clear hcz5_0
      try clear hcz5_1
      try clear hfz5_0
      try clear hfz5_1
      obtain ⟨x4_1, x5_1, rfl, HA, HK1, HO_4, BK659, HB⟩ := hrel
      cases gk with
      | zero => exact absurd HA.out (by simp [spec_LeftByClues.l0])
      | succ k1 =>
        have H := HA.out
        clear HA
        simp only [spec_LeftByClues.l0] at H
        by_cases c7 : x5_1 ≤ (l0_1.length : Int)
        · rw [if_pos c7] at H
          have c7b0 : decide (x5_1 ≤ (l0_1.length : Int)) = true := decide_eq_true c7
          clear c7
          by_cases c8 : 0 ≤ x5_1
          · rw [if_pos c8] at H
            have c8b0 := eq_true c8
            have c8b1 : decide (0 ≤ x5_1) = true := decide_eq_true c8
            clear c8
            have c9b0 := eq_true (of_decide_eq_true (by first | (with_reducible assumption) | assumption) : x5_1 ≤ (l0_1.length : Int))
            obtain ⟨y661, hy661⟩ : ∃ y_ : List (S37), y_ = (l0_1.take (x5_1 : Int).toNat) := ⟨_, rfl⟩
            replace H : ((spec_pzAll.f k1 a0_0 y661).bind fun t665 => (if x4_1.length < 17592186044416 then (spec_LeftByClues.l0 k1 (x4_1 ++ [(t665.length : Int)]) (wrap64 (x5_1 + 1)) a0_0 l0_1) else (none))) = some (r1, r2) := by first | (rw [hy661]; with_reducible exact H) | (have H2_ := (Option.bind_some _ _).symm.trans H; rw [hy661]; with_reducible exact H2_) | (have H2_ := (Option.bind_some _ _).symm.trans H; with_reducible exact H2_) | with_reducible exact H | (rw [hy661]; exact H) | exact H
            have Ny661 := Aside0.mk hy661
            clear hy661
            replace H := Option.bind_eq_some_iff.mp H
            obtain ⟨t665, A100, H⟩ := H
            replace H : (if x4_1.length < 17592186044416 then (spec_LeftByClues.l0 k1 (x4_1 ++ [(t665.length : Int)]) (wrap64 (x5_1 + 1)) a0_0 l0_1) else (none)) = some (r1, r2) := H
            have A10 := Aside0.mk A100
            clear A100
            by_cases c11 : x4_1.length < 17592186044416
            · rw [if_pos c11] at H
              have LMc11 := Aside0.mk c11
              clear c11
              obtain ⟨y668, hy668⟩ : ∃ y_ : List Int, y_ = (x4_1 ++ [(t665.length : Int)]) := ⟨_, rfl⟩
              replace H : (spec_LeftByClues.l0 k1 y668 (wrap64 (x5_1 + 1)) a0_0 l0_1) = some (r1, r2) := by first | (rw [hy668]; with_reducible exact H) | (have H2_ := (Option.bind_some _ _).symm.trans H; rw [hy668]; with_reducible exact H2_) | (have H2_ := (Option.bind_some _ _).symm.trans H; with_reducible exact H2_) | with_reducible exact H | (rw [hy668]; exact H) | exact H
              have Ny668 := Aside0.mk hy668
              clear hy668
              have H' := Aside0.mk H
              clear H
              have hcz12_0 : wr.cell? ⟨gb659, 0, none⟩ = some (.int .i64 a0_0) := (blk_cell BK659.out 0).trans rfl
              have hcz12_1 : wr.cell? ⟨gb659, 1, none⟩ = some (.slice A0_1 l0_1.length c0_1) := (blk_cell BK659.out 1).trans rfl
              have hfz12_0 := blk_frozen BK659.out 0
              have hfz12_1 := blk_frozen BK659.out 1
              try go_wp2
              have n0_ := Aside0.mk (Kd.R_drew HO_4.out)
              have n1_ := Aside0.mk (blk_drew BK659.out)
              have n2_ := Aside0.mk (below_drew1 HB.out)
              clear HO_4
              clear BK659
              clear HB
              have HO_4 := n0_
              have BK659 := n1_
              have HB := n2_
              clear n0_ n1_ n2_
              have q14 : (x5_1 : Int) ≤ ((l0_1.length : Int) : Int) := of_decide_eq_true (by first | (with_reducible assumption) | assumption)
              obtain ⟨i014, hi014, _, hsz14, _⟩ := info_parts info37
              have hroom14 : l0_1.length ≤ c0_1 := HC0_1.out
              have hC14 : Kd.C k37 _ A0_1 l0_1.length l0_1 := HR0_1.out
              have hcut14 := cut_to (P := Try.prog) 27 37 .i64 Try.underlying27 hi014 A0_1 l0_1.length c0_1 x5_1 (of_decide_eq_true (by first | (with_reducible assumption) | assumption)) q14 hroom14
              have hr14 := Kd.C_take (m := (x5_1 : Int).toNat) hC14 (by omega)
              have hy14 : y661.length = (x5_1 : Int).toNat := (by rw [Ny661.out, List.length_take]; omega)
              rw [← Ny661.out] at hr14
              rw [← hy14] at hcut14
              have HR664 := Aside0.mk hr14
              have HC664 := Aside0.mk (show y661.length ≤ c0_1 from by omega)
              clear hr14 hC14 hroom14 hi014 hsz14
              have KY14 := Aside0.mk hy14
              clear hy14
              replace q14 := eq_true q14
              refine start_ (n := 12) (S := fun w' => w'.cell? ⟨gb659, 0, none⟩ = some (.int .i64 a0_0) ∧ w'.cell? ⟨gb659, 1, none⟩ = some (.slice A0_1 l0_1.length c0_1)) (ds := []) #[false, false, false, false, false, false, false, false, false, false, false, false] (by kernel_rfl) rfl rfl ⟨(blk_cell BK659.out 0).trans rfl, (blk_cell BK659.out 1).trans rfl⟩ (fun hHeld => ?_); refine with_tabW spec_LeftByClues.tab7 spec_LeftByClues.bits7 (fun HT_ HW_ => ?_)
              generalize wr.drew = w13 at HO_4 BK659 HB HR664 hHeld ⊢
              refine pure_ (i := 0) (N := some 16) (v := ?_) (a' := ?_) #[true, false, false, false, false, false, false, false, false, false, false, false] rfl rfl (any_of HT_.out (by kernel_rfl)) (fun _ _ _ h => h) (Or.inl ⟨by rfl, ?_⟩) ?_ ?_
              rotate_left
              · intro w'
                go_simp
                with_reducible rfl
              rotate_left
              · simp only [Act.put, List.setIfInBounds_toArray, List.set_cons_zero, List.set_cons_succ, i64_w, i32_w]
                rfl
              refine pure_ (i := 1) (N := some 17) (v := ?_) (a' := ?_) #[true, true, false, false, false, false, false, false, false, false, false, false] rfl rfl (any_of HT_.out (by kernel_rfl)) (fun _ _ _ h => h) (Or.inl ⟨by rfl, ?_⟩) ?_ ?_
              rotate_left
              · intro w'
                go_simp
                with_reducible rfl
              rotate_left
              · simp only [Act.put, List.setIfInBounds_toArray, List.set_cons_zero, List.set_cons_succ, i64_w, i32_w]
                rfl
              refine pure_ (i := 3) (N := some 19) (v := ?_) (a' := ?_) #[true, true, false, true, false, false, false, false, false, false, false, false] rfl rfl (any_of HT_.out (by kernel_rfl)) (fun _ _ _ h => h) (Or.inl ⟨by rfl, ?_⟩) ?_ ?_
              rotate_left
              · intro w'
                go_simp
                with_reducible rfl
              rotate_left
              · simp only [Act.put, List.setIfInBounds_toArray, List.set_cons_zero, List.set_cons_succ, i64_w, i32_w]
                rfl
              refine pure_ (i := 5) (N := some 21) (v := ?_) (a' := ?_) #[true, true, false, true, false, true, false, false, false, false, false, false] rfl rfl (any_of HT_.out (by kernel_rfl)) (fun _ _ _ h => h) (Or.inl ⟨by rfl, ?_⟩) ?_ ?_
              rotate_left
              · intro w'
                go_simp
                with_reducible rfl
              rotate_left
              · simp only [Act.put, List.setIfInBounds_toArray, List.set_cons_zero, List.set_cons_succ, i64_w, i32_w]
                rfl
              refine take_ (i := 2) (N := some 18) (v := ?_) (a' := ?_) #[true, true, true, true, false, true, false, false, false, false, false, false] rfl rfl (take_ofW HT_.out HW_.out (by kernel_rfl)) (fun _ _ _ h => h) (Or.inl ⟨by rfl, ?_⟩) hHeld ?_ ?_
              rotate_left
              · rintro w' ⟨s0, s1⟩
                go_simp
                with_reducible rfl
              rotate_left
              · simp only [Act.put, List.setIfInBounds_toArray, List.set_cons_zero, List.set_cons_succ, i64_w, i32_w]
                rfl
              refine take_ (i := 4) (N := some 20) (v := ?_) (a' := ?_) #[true, true, true, true, true, true, false, false, false, false, false, false] rfl rfl (take_ofW HT_.out HW_.out (by kernel_rfl)) (fun _ _ _ h => h) (Or.inl ⟨by rfl, ?_⟩) hHeld ?_ ?_
              rotate_left
              · rintro w' ⟨s0, s1⟩
                go_simp
                with_reducible rfl
              rotate_left
              · simp only [Act.put, List.setIfInBounds_toArray, List.set_cons_zero, List.set_cons_succ, i64_w, i32_w]
                rfl
              refine pure_ (i := 6) (N := some 22) (v := ?_) (a' := ?_) #[true, true, true, true, true, true, true, false, false, false, false, false] rfl rfl (any_of HT_.out (by kernel_rfl)) (fun _ _ _ h => h) (Or.inl ⟨by rfl, ?_⟩) ?_ ?_
              rotate_left
              · intro w'
                go_simp
                with_reducible rfl
              rotate_left
              · simp only [Act.put, List.setIfInBounds_toArray, List.set_cons_zero, List.set_cons_succ, i64_w, i32_w]
                rfl
              refine one_ (i := 7) (N := some 23) #[true, true, true, true, true, true, true, true, false, false, false, false] rfl rfl (one_of HT_.out (by kernel_rfl)) (by decide) (fun K hK => ?_)
              refine goes_ Try.func79 (by kernel_rfl) rfl #[.int .i64 a0_0, .slice A0_1 y661.length c0_1] (by rfl) rfl rfl (by (try simp only [List.map_toArray, List.map_cons, List.map_nil]); first | done | rfl | (simp only [List.length_drop, List.length_take]; rfl)) ?_
              with_reducible refine (spec_pzAll.calls k1 a0_0 _ _ y661 t665 _ ?side1 ?side2 A10.out).mono ?_
              (case side1 => repeat (first | exact (Kd.C_below HR664.out HB.out) | (with_reducible refine Kd.C_alloc ?_ _) | (with_reducible refine Kd.C_drewN ?_ _) | (with_reducible refine Kd.C_drew ?_)))
              (case side2 => exact HC664.out)
              rintro e w15 ⟨v666, rfl, ho0, hb⟩
              refine ⟨_, rfl, ?_⟩
              have n0_ := Aside0.mk (Kd.R_below (by (with_reducible repeat (first | apply Kd.R_alloc | apply Kd.R_drewN | apply Kd.R_drew)); exact HO_4.out) hb)
              have n1_ := Aside0.mk (Kd.R_lower ho0 (below_size (by repeat (first | (with_reducible first | exact HB.out | apply below_alloc | apply pw_below_drewN | apply below_drew1 | refine below_set ?_ GE659.out) | exact HB.out))))
              have n2_ := Aside0.mk (blk_below (g := gb659) (o := .cells #[.int .i64 a0_0, .slice A0_1 l0_1.length c0_1] 29 (0, 0)) (by (with_reducible repeat (first | refine blk_drewN ?_ _ | refine blk_drew ?_ | refine blk_alloc ?_ _)); exact BK659.out) hb)
              have n3_ := Aside0.mk (below_step (by repeat (first | (with_reducible first | exact HB.out | apply below_alloc | apply pw_below_drewN | apply below_drew1 | refine below_set ?_ GE659.out) | exact HB.out)) hb)
              clear HO_4
              clear BK659
              clear HB
              have HO_4 := n0_
              have HO667 := n1_
              have BK659 := n2_
              have HB := n3_
              clear n0_ n1_ n2_ n3_
              (try clear hb)
              (try clear hb2)
              (try clear hk)
              (try clear hi)
              (try clear ho0)
              obtain ⟨Ao16, co16, eo16⟩ := Kd.R_slice HO667.out
              (first | subst eo16 | (injection eo16 with f1_ f2_ f3_; have f4_ := f1_.symm; have f5_ := f3_.symm; clear f1_ f2_ f3_; subst f4_; subst f5_))
              refine hK.out _ _ ⟨(blk_cell BK659.out 0).trans rfl, (blk_cell BK659.out 1).trans rfl⟩ (fun hHeld => ?_)
              clear hK K
              refine norm_ (a' := ?_) ?_ ?_
              rotate_left
              · show Act.put _ (some 23) _ = _
                simp only [Act.put, List.setIfInBounds_toArray, List.set_cons_zero, List.set_cons_succ, i64_w, i32_w]
                rfl
              refine pure_ (i := 8) (N := some 24) (v := ?_) (a' := ?_) #[true, true, true, true, true, true, true, true, true, false, false, false] rfl rfl (any_of HT_.out (by kernel_rfl)) (fun _ _ _ h => h) (Or.inl ⟨by rfl, ?_⟩) ?_ ?_
              rotate_left
              · intro w'
                go_simp
                with_reducible rfl
              rotate_left
              · simp only [Act.put, List.setIfInBounds_toArray, List.set_cons_zero, List.set_cons_succ, i64_w, i32_w]
                rfl
              refine one_ (i := 9) (N := some 25) #[true, true, true, true, true, true, true, true, true, true, false, false] rfl rfl (one_of HT_.out (by kernel_rfl)) (by decide) (fun K hK => ?_)
              refine value_ (w1 := ?_) (v := ?_) (by rfl) rfl ?_ ?_
              rotate_left 2
              · go_simp
                constructor
                · rfl
                · rfl
              refine hK.out _ _ ⟨(blk_cell (blk_alloc BK659.out _) 0).trans rfl, (blk_cell (blk_alloc BK659.out _) 1).trans rfl⟩ (fun hHeld => ?_)
              clear hK K
              refine norm_ (a' := ?_) ?_ ?_
              rotate_left
              · show Act.put _ (some 25) _ = _
                simp only [Act.put, List.setIfInBounds_toArray, List.set_cons_zero, List.set_cons_succ, i64_w, i32_w]
                rfl
              refine one_ (i := 10) (N := some 26) #[true, true, true, true, true, true, true, true, true, true, true, false] rfl rfl (one_of HT_.out (by kernel_rfl)) (by decide) (fun K hK => ?_)
              refine Kd.R_append_step (Kd.int .i64) (w0 := w) w.heap.size (by rfl) (.tmp 16) (.tmp 25) 60 3 (.int .i64 0) 8 rfl Try.underlying60 info3 rfl (by decide) (by omega) u4 x4_1 (t665.length : Int) [.int .i64 (t665.length : Int)] (fun _ => True) (fun _ => False) rfl rfl ?aP (fun _ hk => hk.elim) ?aF ?aO ?aB ?aS ?aL ?_
              (case aP => exact rfl)
              (case aB => exact (by repeat (first | (with_reducible first | exact HB.out | apply below_alloc | apply pw_below_drewN | apply below_drew1 | refine below_set ?_ GE659.out) | exact HB.out)))
              (case aF => exact (fun _ _ => trivial))
              (case aO => exact (by (with_reducible repeat (first | apply Kd.R_alloc | apply Kd.R_drewN | apply Kd.R_drew)); exact HO_4.out))
              (case aS => exact (below_size (by repeat (first | (with_reducible first | exact HB.out | apply below_alloc | apply pw_below_drewN | apply below_drew1 | refine below_set ?_ GE659.out) | exact HB.out))))
              (case aL => have := LMc11.out; omega)
              intro v669 w17 ho hb hg hat
              rw [← Ny668.out] at ho
              have n0_ := Aside0.mk (blk_grown (g := gb659) (o := .cells #[.int .i64 a0_0, .slice A0_1 l0_1.length c0_1] 29 (0, 0)) (by (with_reducible repeat (first | refine blk_drewN ?_ _ | refine blk_drew ?_ | refine blk_alloc ?_ _)); exact BK659.out) hg (Kd.R_ne HO_4.out BK659.out (by decide)))
              have n1_ := Aside0.mk (Kd.R_over' (by (with_reducible repeat (first | apply Kd.R_alloc | apply Kd.R_drewN | apply Kd.R_drew)); exact HO667.out) (Kd.R_typed (by (with_reducible repeat (first | apply Kd.R_alloc | apply Kd.R_drewN | apply Kd.R_drew)); exact HO_4.out)) (by decide) hg)
              have n2_ := Aside0.mk (hb)
              have n3_ := Aside0.mk (ho)
              clear BK659
              clear HO667
              clear HB
              clear HO_4
              have BK659 := n0_
              have HO667 := n1_
              have HB := n2_
              have HO670 := n3_
              clear n0_ n1_ n2_ n3_
              clear ho hb hg hat
              refine hK.out _ _ ⟨(blk_cell BK659.out 0).trans rfl, (blk_cell BK659.out 1).trans rfl⟩ (fun hHeld => ?_)
              clear hK K
              refine norm_ (a' := ?_) ?_ ?_
              rotate_left
              · show Act.put _ (some 26) _ = _
                simp only [Act.put, List.setIfInBounds_toArray, List.set_cons_zero, List.set_cons_succ, i64_w, i32_w]
                rfl
              refine pure_ (i := 11) (N := some 4) (v := ?_) (a' := ?_) #[true, true, true, true, true, true, true, true, true, true, true, true] rfl rfl (any_of HT_.out (by kernel_rfl)) (fun _ _ _ h => h) (Or.inl ⟨by rfl, ?_⟩) ?_ ?_
              rotate_left
              · intro w'
                go_simp
                with_reducible rfl
              rotate_left
              · simp only [Act.put, List.setIfInBounds_toArray, List.set_cons_zero, List.set_cons_succ, i64_w, i32_w]
                rfl
              refine done_ (done_of HT_.out (by kernel_rfl)) ?_
              try go_wp2
              go_roundg k1
              case measure => have := HK1.out; omega
              case rel => exact ⟨(y668), (wrap64 (x5_1 + 1)), (by first | rfl | (simp; done) | (simp [*]; done)), H', ⟨by have := HK1.out; omega⟩, ⟨by (with_reducible repeat (first | apply Kd.R_alloc | apply Kd.R_drewN | apply Kd.R_drew)); exact HO670.out⟩, ⟨by (with_reducible repeat (first | refine blk_drewN ?_ _ | refine blk_drew ?_ | refine blk_alloc ?_ _)); exact BK659.out⟩, ⟨by repeat (first | (with_reducible first | exact HB.out | apply below_alloc | apply pw_below_drewN | apply below_drew1 | refine below_set ?_ GE659.out) | exact HB.out)⟩⟩
            · rw [if_neg c11] at H
              exact absurd H (by simp)
          · rw [if_neg c8] at H
            exact absurd H (by simp)
        · rw [if_neg c7] at H
          have c7b0 : decide (x5_1 ≤ (l0_1.length : Int)) = false := decide_eq_false c7
          clear c7
          simp only [Option.some.injEq, Prod.mk.injEq] at H
          obtain ⟨rfl, rfl⟩ := H
          have hcz18_0 : wr.cell? ⟨gb659, 0, none⟩ = some (.int .i64 a0_0) := (blk_cell BK659.out 0).trans rfl
          have hcz18_1 : wr.cell? ⟨gb659, 1, none⟩ = some (.slice A0_1 l0_1.length c0_1) := (blk_cell BK659.out 1).trans rfl
          have hfz18_0 := blk_frozen BK659.out 0
          have hfz18_1 := blk_frozen BK659.out 1
          go_wp2
          go_ret2
          exact ⟨_, by first | rfl | (simp [errW_none, errW_some] <;> rfl) | (simp [*, errW_none, errW_some] <;> rfl), by (with_reducible repeat (first | apply Kd.R_alloc | apply Kd.R_drewN | apply Kd.R_drew)); exact HO_4.out, by repeat (first | (with_reducible first | exact HB.out | apply below_alloc | apply pw_below_drewN | apply below_drew1 | refine below_set ?_ GE659.out) | exact HB.out)⟩
  · replace c3 := Bool.eq_false_iff.mpr c3
    subst c3
    have H1 : (some (([] : List Int), false)) = some (r1, r2) := by rw [if_neg (show ¬ (false = true) by decide)] at H; exact H
    clear H
    have H := H1
    clear H1
    simp only [Option.some.injEq, Prod.mk.injEq] at H
    obtain ⟨rfl, rfl⟩ := H
    go_enter Try.func43, Try.ntmps43
    go_wp2_with (first | ((with_reducible refine gate_dst (N := 1) rfl ?_); refine box_event ?hg (N := 1) ?hd (cs := #[.int .i64 a0_0, .slice A0_1 l0_1.length c0_1]) (t := 29) ?hr ?_; (case hd => rfl); (case hg => rfl); (case hr => first | (go_simp; done) | (go_simp; rfl)); intro gb659 hg w19 hbox hb; have n0_ := Aside0.mk (below_step (by repeat (first | (with_reducible first | exact HB.out | apply below_alloc | apply pw_below_drewN | apply below_drew1) | exact HB.out)) hb); have n1_ := Aside0.mk (hbox); have n2_ := Aside0.mk ((by rw [hg]; exact (below_size (by repeat (first | (with_reducible first | exact HB.out | apply below_alloc | apply pw_below_drewN | apply below_drew1) | exact HB.out))) : w.heap.size ≤ gb659)); have n3_ := Aside0.mk ((by rw [hg]; exact (below_size (by repeat (first | (with_reducible first | exact HB.out | apply below_alloc | apply pw_below_drewN | apply below_drew1) | exact HB.out))) : w.heap.size ≤ gb659)); clear HB; have HB := n0_; have BK659 := n1_; have GW659 := n2_; have GE659 := n3_; clear n0_ n1_ n2_ n3_; clear hb hbox hg; have hcz20_0 : w19.cell? ⟨gb659, 0, none⟩ = some (.int .i64 a0_0) := (blk_cell BK659.out 0).trans rfl; have hcz20_1 : w19.cell? ⟨gb659, 1, none⟩ = some (.slice A0_1 l0_1.length c0_1) := (blk_cell BK659.out 1).trans rfl; have hfz20_0 := blk_frozen BK659.out 0; have hfz20_1 := blk_frozen BK659.out 1) | ((with_reducible refine gate_callee (f := 54) rfl ?_); refine goesL_ (some 7) rfl rfl Try.func54 (by kernel_rfl) rfl #[.agg #[.int .i64 a0_0, .slice A0_1 l0_1.length c0_1]] rfl (by (try simp only [List.map_toArray, List.map_cons, List.map_nil]); first | done | rfl | (simp only [List.length_drop, List.length_take]; rfl)) ?_; (with_reducible refine (spec_pzGood.calls k a0_0 _ _ l0_1 false _ ?side1 ?side2 A2.out).mono ?_); (case side1 => repeat (first | exact (Kd.C_below HR0_1.out HB.out) | (with_reducible refine Kd.C_alloc ?_ _) | (with_reducible refine Kd.C_drewN ?_ _) | (with_reducible refine Kd.C_drew ?_))); (case side2 => exact HC0_1.out); rintro e w21 ⟨rfl, hb⟩; refine ⟨_, rfl, ?_⟩; have n0_ := Aside0.mk (blk_below (g := gb659) (o := .cells #[.int .i64 a0_0, .slice A0_1 l0_1.length c0_1] 29 (0, 0)) (by (with_reducible repeat (first | refine blk_drewN ?_ _ | refine blk_drew ?_ | refine blk_alloc ?_ _)); exact BK659.out) hb); have n1_ := Aside0.mk (below_step (by repeat (first | (with_reducible first | exact HB.out | apply below_alloc | apply pw_below_drewN | apply below_drew1 | refine below_set ?_ GE659.out) | exact HB.out)) hb); clear BK659; clear HB; have BK659 := n0_; have HB := n1_; clear n0_ n1_; (try clear hb); (try clear hb2); (try clear hk); (try clear hi)))
    go_ret2
    exact ⟨_, by first | rfl | (simp [errW_none, errW_some] <;> rfl) | (simp [*, errW_none, errW_some] <;> rfl), by first | exact Kd.R_nil _ _ _ _ _ | exact Kd.N_nil _ _ _ _ _ | exact Kd.V_nil _ _ _ _ _ | exact Kd.Q_nil _ _ _ _ _ | exact Kd.S_nil _ _ _ _ _, by repeat (first | (with_reducible first | exact HB.out | apply below_alloc | apply pw_below_drewN | apply below_drew1 | refine below_set ?_ GE659.out) | exact HB.out)⟩

end Go.Proofs.Ytbdjidjcmmeanaa.P

namespace Go.Proofs.Ytbdjidjcmmeanaa.P
open Go.RowKit Go.Proofs.YtbdjidjcmmeanaaW.PrintWords Go.Proofs.YtbdjidjcmmeanaaW.PrintLast Go.Proofs.YtbdjidjcmmeanaaW.PrintMore
attribute [local go_sem] max2_int min2_int max_two min_two max_three min_three max_four min_four   -- for this text's walks alone
set_option linter.unusedVariables false
set_option linter.unusedSimpArgs false

/-! ### laws_eqIntS: function 45 -/
def laws_eqIntS.l0 : Nat → List Int → List Int → Int → Option (Bool)
  | 0, _, _, _ => none
  | k + 1, x0, x1, x5 => if x5 < (x0.length : Int) then (if 0 ≤ x5 then (if x5 < (x1.length : Int) then (if (rd x0 x5) = (rd x1 x5) then (laws_eqIntS.l0 k x0 x1 (wrap64 (x5 + 1))) else (some false)) else (none)) else (none)) else (some true)
def laws_eqIntS.f (k : Nat) (l0 : List Int) (l1 : List Int) : Option (Bool) := if (l0.length : Int) = (l1.length : Int) then (laws_eqIntS.l0 k l0 l1 0) else (some false)
set_option maxHeartbeats 8000000 in
set_option maxRecDepth 100000 in
theorem laws_eqIntS.calls (k : Nat) (A0 : Option Addr) (c0 : Nat) (l0 : List Int) (A1 : Option Addr) (c1 : Nat) (l1 : List Int) (r : Bool) (w : World) (hr0 : Kd.C (Kd.int .i64) w A0 l0.length l0) (hc0 : l0.length ≤ c0) (hr1 : Kd.C (Kd.int .i64) w A1 l1.length l1) (hc1 : l1.length ≤ c1) (h : laws_eqIntS.f k l0 l1 = some r) :
    Calls Try.prog 45 #[.slice A0 l0.length c0, .slice A1 l1.length c1] w fun e w' => e = .returned (.bool r) ∧ Drawn0 w w' := by
  have HR0 := Aside0.mk hr0
  have HC0 := Aside0.mk hc0
  clear hr0 hc0
  have HR1 := Aside0.mk hr1
  have HC1 := Aside0.mk hc1
  clear hr1 hc1
  have H : (if (l0.length : Int) = (l1.length : Int) then (laws_eqIntS.l0 k l0 l1 0) else (some false)) = some r := h
  clear h
  by_cases c3 : (l0.length : Int) = (l1.length : Int)
  · rw [if_pos c3] at H
    have c3b0 : ((l0.length : Int) == (l1.length : Int)) = true := beq_iff_eq.mpr c3
    have c3b1 : ((l0.length : Int) != (l1.length : Int)) = false := bne_eq_false_iff_eq.mpr c3
    have c3b2 : (l0.length == l1.length) = true := by first | simpa using c3 | (simp at c3 ⊢; omega)
    clear c3
    have H' := Aside0.mk H
    clear H
    go_enter Try.func45, Try.ntmps45
    go_wp2
    repeat (go_quiet (fail); try go_wp2)
    go_loopg [5] k (fun kq v5 w' => ∃ (x5_1 : Int), v5 = .int .i64 x5_1 ∧ Aside0 (laws_eqIntS.l0 kq l0 l1 x5_1 = some r) ∧ Aside0 (kq ≤ k) ∧ Drawn0 w w')
    case atStart => exact ⟨(0), (by first | rfl | (simp; done) | (simp [*]; done)), H', ⟨Nat.le_refl _⟩, by repeat (first | exact Drawn0.refl _ | apply Drawn0.step)⟩
    case round =>
      clear H'
      try clear c1
      try clear p2
      try clear c3
      try clear c3b0
      try clear c3b1
      try clear c3b2
      obtain ⟨x5_1, rfl, HA, HK1, ⟨m1, rfl⟩⟩ := hrel
      cases gk with
      | zero => exact absurd HA.out (by simp [laws_eqIntS.l0])
      | succ k1 =>
        have H := HA.out
        clear HA
        simp only [laws_eqIntS.l0] at H
        by_cases c4 : x5_1 < (l0.length : Int)
        · rw [if_pos c4] at H
          have c4b0 : decide (x5_1 < (l0.length : Int)) = true := decide_eq_true c4
          clear c4
          by_cases c5 : 0 ≤ x5_1
          · rw [if_pos c5] at H
            have c5b0 : decide (0 ≤ x5_1) = true := decide_eq_true c5
            clear c5
            by_cases c6 : x5_1 < (l1.length : Int)
            · rw [if_pos c6] at H
              have c6b0 : decide (x5_1 < (l1.length : Int)) = true := decide_eq_true c6
              clear c6
              by_cases c7 : (rd l0 x5_1) = (rd l1 x5_1)
              · rw [if_pos c7] at H
                have c7b0 : ((rd l0 x5_1) == (rd l1 x5_1)) = true := beq_iff_eq.mpr c7
                have c7b1 : ((rd l0 x5_1) != (rd l1 x5_1)) = false := bne_eq_false_iff_eq.mpr c7
                clear c7
                have H' := Aside0.mk H
                clear H
                have p686 : 0 ≤ (x5_1 : Int) := of_decide_eq_true (by first | (with_reducible assumption) | assumption)
                have q686 : x5_1 < (l0.length : Int) := of_decide_eq_true (by first | (with_reducible assumption) | assumption)
                obtain ⟨ad686, e686, hx686_0⟩ := Kd.at_int HR0.out x5_1 p686 q686
                cases e686
                replace p686 := eq_true p686
                replace q686 := eq_true q686
                have p687 : 0 ≤ (x5_1 : Int) := of_decide_eq_true (by first | (with_reducible assumption) | assumption)
                have q687 : x5_1 < (l1.length : Int) := of_decide_eq_true (by first | (with_reducible assumption) | assumption)
                obtain ⟨ad687, e687, hx687_0⟩ := Kd.at_int HR1.out x5_1 p687 q687
                cases e687
                replace p687 := eq_true p687
                replace q687 := eq_true q687
                go_wp2
                repeat (go_quiet (fail); try go_wp2)
                go_roundg k1
                case measure => have := HK1.out; omega
                case rel => exact ⟨(wrap64 (x5_1 + 1)), (by first | rfl | (simp; done) | (simp [*]; done)), H', ⟨by have := HK1.out; omega⟩, by repeat (first | exact Drawn0.refl _ | apply Drawn0.step)⟩
              · rw [if_neg c7] at H
                have c7b0 : ((rd l0 x5_1) == (rd l1 x5_1)) = false := beq_eq_false_iff_ne.mpr c7
                have c7b1 : ((rd l0 x5_1) != (rd l1 x5_1)) = true := bne_iff_ne.mpr c7
                obtain rfl := Option.some.inj H
                have p686 : 0 ≤ (x5_1 : Int) := of_decide_eq_true (by first | (with_reducible assumption) | assumption)
                have q686 : x5_1 < (l0.length : Int) := of_decide_eq_true (by first | (with_reducible assumption) | assumption)
                obtain ⟨ad686, e686, hx686_0⟩ := Kd.at_int HR0.out x5_1 p686 q686
                cases e686
                replace p686 := eq_true p686
                replace q686 := eq_true q686
                have p687 : 0 ≤ (x5_1 : Int) := of_decide_eq_true (by first | (with_reducible assumption) | assumption)
                have q687 : x5_1 < (l1.length : Int) := of_decide_eq_true (by first | (with_reducible assumption) | assumption)
                obtain ⟨ad687, e687, hx687_0⟩ := Kd.at_int HR1.out x5_1 p687 q687
                cases e687
                replace p687 := eq_true p687
                replace q687 := eq_true q687
                go_wp2
                repeat (go_quiet (fail); try go_wp2)
                go_ret
                exact ⟨by first | rfl | (simp; done) | (simp [*]; done), by repeat (first | exact Drawn0.refl _ | apply Drawn0.step)⟩
            · rw [if_neg c6] at H
              exact absurd H (by simp)
          · rw [if_neg c5] at H
            exact absurd H (by simp)
        · rw [if_neg c4] at H
          have c4b0 : decide (x5_1 < (l0.length : Int)) = false := decide_eq_false c4
          clear c4
          obtain rfl := Option.some.inj H
          go_wp2
          repeat (go_quiet (fail); try go_wp2)
          go_ret
          exact ⟨by first | rfl | (simp; done) | (simp [*]; done), by repeat (first | exact Drawn0.refl _ | apply Drawn0.step)⟩
  · rw [if_neg c3] at H
    have c3b0 : ((l0.length : Int) == (l1.length : Int)) = false := beq_eq_false_iff_ne.mpr c3
    have c3b1 : ((l0.length : Int) != (l1.length : Int)) = true := bne_iff_ne.mpr c3
    have c3b2 : (l0.length == l1.length) = false := by first | simpa using c3 | (simp at c3 ⊢; omega)
    obtain rfl := Option.some.inj H
    go_enter Try.func45, Try.ntmps45
    go_wp2
    repeat (go_quiet (fail); try go_wp2)
    go_ret
    exact ⟨by first | rfl | (simp; done) | (simp [*]; done), by repeat (first | exact Drawn0.refl _ | apply Drawn0.step)⟩

end Go.Proofs.Ytbdjidjcmmeanaa.P

namespace Go.Proofs.Ytbdjidjcmmeanaa.P
open Go.RowKit Go.Proofs.YtbdjidjcmmeanaaW.PrintWords Go.Proofs.YtbdjidjcmmeanaaW.PrintLast Go.Proofs.YtbdjidjcmmeanaaW.PrintMore
attribute [local go_sem] max2_int min2_int max_two min_two max_three min_three max_four min_four   -- for this text's walks alone
set_option linter.unusedVariables false
set_option linter.unusedSimpArgs false

/-! ### laws_markIntS: function 46 -/
def laws_markIntS.l0 : Nat → List Int → Int → Int → Option (Int × List Int)
  | 0, _, _, _ => none
  | k + 1, x0, x1, x5 => if x5 < (x0.length : Int) then (if 0 ≤ x5 then (laws_markIntS.l0 k (x0.set (x5 : Int).toNat x1) (wrap64 (x1 + 1)) (wrap64 (x5 + 1))) else (none)) else (some (x1, x0))
def laws_markIntS.f (k : Nat) (l0 : List Int) (a1 : Int) : Option (Int × List Int) := laws_markIntS.l0 k l0 a1 0
set_option maxHeartbeats 8000000 in
set_option maxRecDepth 100000 in
theorem laws_markIntS.calls (k : Nat) (P0_ : Nat → Prop) (u9000_ : Value) (l0 : List Int) (a1 : Int) (r1 : Int) (r2 : List Int) (w0 w : World) (hB : Below w0.heap.size w0 w) (ho0 : Kd.R (Kd.int .i64) 3 w w0.heap.size P0_ u9000_ l0) (h : laws_markIntS.f k l0 a1 = some (r1, r2)) :
    Calls Try.prog 46 #[u9000_, .int .i64 a1] w fun e w' => e = .returned (.int .i64 r1) ∧ Kd.R (Kd.int .i64) 3 w' w0.heap.size (fun k_ => (P0_ k_ ∨ w.heap.size ≤ k_)) u9000_ r2 ∧ Below w0.heap.size w0 w' ∧ Kept w w' (fun k_ => P0_ k_) := by
  have HO0 := Aside0.mk (show Kd.R (Kd.int .i64) 3 w w0.heap.size (fun k_ => (P0_ k_ ∨ w.heap.size ≤ k_)) u9000_ l0 from Kd.R_mono ho0 (fun k_ hk => (.inl hk)))
  have HK := Aside0.mk (Kept.refl w (fun k_ => P0_ k_))
  have HW0 := Aside0.mk hB.size
  have HB := Aside0.mk hB
  clear hB
  have H : (laws_markIntS.l0 k l0 a1 0) = some (r1, r2) := h
  clear h
  have H' := Aside0.mk H
  clear H
  go_enter Try.func46, Try.ntmps46
  go_wp2
  go_loopg [1, 5] k (fun kq v1 v5 w' => ∃ (x0_1 : List Int) (x1_1 : Int) (x5_1 : Int), v1 = .int .i64 x1_1 ∧ v5 = .int .i64 x5_1 ∧ Aside0 (laws_markIntS.l0 kq x0_1 x1_1 x5_1 = some (r1, r2)) ∧ Aside0 (kq ≤ k) ∧ Aside0 (Kd.R (Kd.int .i64) 3 w' w0.heap.size (fun k_ => (P0_ k_ ∨ w.heap.size ≤ k_)) u9000_ x0_1) ∧ Aside0 (Kept w w' (fun k_ => P0_ k_)) ∧ Aside0 (Below w0.heap.size w0 w'))
  case atStart => exact ⟨(l0), (a1), (0), (by first | rfl | (simp; done) | (simp [*]; done)), (by first | rfl | (simp; done) | (simp [*]; done)), H', ⟨Nat.le_refl _⟩, ⟨by (with_reducible repeat (first | apply Kd.R_alloc | apply Kd.R_drewN | apply Kd.R_drew)); exact HO0.out⟩, ⟨by repeat (first | (with_reducible first | exact HK.out | apply Kept.alloc | apply Kept.drewN | apply Kept.drew) | exact HK.out)⟩, ⟨by repeat (first | (with_reducible first | exact HB.out | apply below_alloc | apply pw_below_drewN | apply below_drew1) | exact HB.out)⟩⟩
  case round =>
    clear H'
    try clear p2
    obtain ⟨x0_1, x1_1, x5_1, rfl, rfl, HA, HK1, HO_0, HK, HB⟩ := hrel
    cases gk with
    | zero => exact absurd HA.out (by simp [laws_markIntS.l0])
    | succ k1 =>
      have H := HA.out
      clear HA
      simp only [laws_markIntS.l0] at H
      by_cases c3 : x5_1 < (x0_1.length : Int)
      · rw [if_pos c3] at H
        have c3b0 : decide (x5_1 < (x0_1.length : Int)) = true := decide_eq_true c3
        clear c3
        by_cases c4 : 0 ≤ x5_1
        · rw [if_pos c4] at H
          have c4b0 : decide (0 ≤ x5_1) = true := decide_eq_true c4
          clear c4
          obtain ⟨y688, hy688⟩ : ∃ y_ : List Int, y_ = (x0_1.set (x5_1 : Int).toNat x1_1) := ⟨_, rfl⟩
          replace H : (laws_markIntS.l0 k1 y688 (wrap64 (x1_1 + 1)) (wrap64 (x5_1 + 1))) = some (r1, r2) := by first | (rw [hy688]; with_reducible exact H) | (have H2_ := (Option.bind_some _ _).symm.trans H; rw [hy688]; with_reducible exact H2_) | (have H2_ := (Option.bind_some _ _).symm.trans H; with_reducible exact H2_) | with_reducible exact H | (rw [hy688]; exact H) | exact H
          have Ny688 := Aside0.mk hy688
          clear hy688
          have H' := Aside0.mk H
          clear H
          obtain ⟨Ao6, co6, eo6⟩ := Kd.R_slice HO_0.out
          subst eo6
          have p5 : 0 ≤ (x5_1 : Int) := of_decide_eq_true (by first | (with_reducible assumption) | assumption)
          have q5 : (x5_1 : Int) < ((x0_1.length : Int) : Int) := of_decide_eq_true (by first | (with_reducible assumption) | assumption)
          obtain ⟨go5, co5, eo5, gb5, gl5, cl5, HG5⟩ := Kd.R_form HO_0.out (by omega)
          (first | cases eo5 | (injection eo5 with ea_ en_ ec_; (first | subst ea_ | (injection ea_ with ea_; subst ea_)); subst ec_; clear en_))
          have GB5 := Aside0.mk gb5
          have GG5 := Aside0.mk HG5
          clear gb5 gl5 HG5
          have HMgo5 := Aside0.mk (show (P0_ go5 ∨ w.heap.size ≤ go5) from (HO_0.out.1 _ rfl))
          obtain ⟨hx5_0, hf5_0⟩ := Kd.R_celln 0 HO_0.out (x5_1 : Int) p5 q5
          replace p5 := eq_true p5
          replace q5 := eq_true q5
          have HP7 := Kd.R_putg HO_0.out (x5_1 : Int) x1_1
          go_wp2_with (first | ((with_reducible refine gate_store (t := 3) (p := 15) rfl ?_); refine store_event (t := 3) (p := 15) (v := ?vo_w8) (w1 := (wr.setCell ⟨go5, (x5_1 : Int).toNat, none⟩ (.int .i64 x1_1))) ?hg ?ho ?hn ?hr ?_; (case ho => rfl); (case hg => rfl); (case hn => rfl); (case hr => first | (go_simp; done) | (go_simp; rfl)); intro w8 hw; have hg : wr.grownBy w8 (some go5) := (by rw [hw]; exact HP7.2); have hp_ : Kd.R (Kd.int .i64) 3 w8 w0.heap.size (fun k_ => (P0_ k_ ∨ w.heap.size ≤ k_)) (.slice (some ⟨go5, 0, none⟩) x0_1.length co6) y688 := (by rw [hw, Ny688.out]; exact HP7.1); clear HP7; have n0_ := Aside0.mk (hp_); have n1_ := Aside0.mk ((by rw [hw]; exact below_set (HB.out) GB5.out : Below w0.heap.size w0 w8)); have n2_ := Aside0.mk (Kept.of_grown (S := (fun k_ => P0_ k_)) hg (by repeat (first | (with_reducible first | exact HK.out | apply Kept.alloc | apply Kept.drewN | apply Kept.drew) | exact HK.out)) (fun k_ e_ => (HO_0.out.1 k_ e_))); clear HO_0; clear HB; clear HK; have HO_0 := n0_; have HB := n1_; have HK := n2_; clear n0_ n1_ n2_; clear hg hw hp_))
          go_roundg k1
          case measure => have := HK1.out; omega
          case rel => exact ⟨(y688), (wrap64 (x1_1 + 1)), (wrap64 (x5_1 + 1)), (by first | rfl | (simp; done) | (simp [*]; done)), (by first | rfl | (simp; done) | (simp [*]; done)), H', ⟨by have := HK1.out; omega⟩, ⟨by (with_reducible repeat (first | apply Kd.R_alloc | apply Kd.R_drewN | apply Kd.R_drew)); exact HO_0.out⟩, ⟨by repeat (first | (with_reducible first | exact HK.out | apply Kept.alloc | apply Kept.drewN | apply Kept.drew) | exact HK.out)⟩, ⟨by repeat (first | (with_reducible first | exact HB.out | apply below_alloc | apply pw_below_drewN | apply below_drew1) | exact HB.out)⟩⟩
        · rw [if_neg c4] at H
          exact absurd H (by simp)
      · rw [if_neg c3] at H
        have c3b0 : decide (x5_1 < (x0_1.length : Int)) = false := decide_eq_false c3
        clear c3
        simp only [Option.some.injEq, Prod.mk.injEq] at H
        obtain ⟨rfl, rfl⟩ := H
        obtain ⟨Ao9, co9, eo9⟩ := Kd.R_slice HO_0.out
        subst eo9
        go_wp2
        go_ret
        exact ⟨by first | rfl | (simp [errW_none, errW_some] <;> rfl) | (simp [*, errW_none, errW_some] <;> rfl), by (with_reducible repeat (first | apply Kd.R_alloc | apply Kd.R_drewN | apply Kd.R_drew)); exact HO_0.out, by repeat (first | (with_reducible first | exact HB.out | apply below_alloc | apply pw_below_drewN | apply below_drew1) | exact HB.out), by repeat (first | (with_reducible first | exact HK.out | apply Kept.alloc | apply Kept.drewN | apply Kept.drew) | exact HK.out)⟩

end Go.Proofs.Ytbdjidjcmmeanaa.P

namespace Go.Proofs.Ytbdjidjcmmeanaa.P
open Go.RowKit Go.Proofs.YtbdjidjcmmeanaaW.PrintWords Go.Proofs.YtbdjidjcmmeanaaW.PrintLast Go.Proofs.YtbdjidjcmmeanaaW.PrintMore
attribute [local go_sem] max2_int min2_int max_two min_two max_three min_three max_four min_four   -- for this text's walks alone
set_option linter.unusedVariables false
set_option linter.unusedSimpArgs false

/-! ### laws_heldIntS: function 47 -/
def laws_heldIntS.l0 : Nat → List Int → Int → Int → Option (Int)
  | 0, _, _, _ => none
  | k + 1, x0, x1, x5 => if x5 < (x0.length : Int) then (if 0 ≤ x5 then (if (rd x0 x5) = x1 then (laws_heldIntS.l0 k x0 (wrap64 (x1 + 1)) (wrap64 (x5 + 1))) else (some (-1))) else (none)) else (some x1)
def laws_heldIntS.f (k : Nat) (l0 : List Int) (a1 : Int) : Option (Int) := laws_heldIntS.l0 k l0 a1 0
set_option maxHeartbeats 8000000 in
set_option maxRecDepth 100000 in
theorem laws_heldIntS.calls (k : Nat) (A0 : Option Addr) (c0 : Nat) (l0 : List Int) (a1 : Int) (r : Int) (w : World) (hr0 : Kd.C (Kd.int .i64) w A0 l0.length l0) (hc0 : l0.length ≤ c0) (h : laws_heldIntS.f k l0 a1 = some r) :
    Calls Try.prog 47 #[.slice A0 l0.length c0, .int .i64 a1] w fun e w' => e = .returned (.int .i64 r) ∧ Drawn0 w w' := by
  have HR0 := Aside0.mk hr0
  have HC0 := Aside0.mk hc0
  clear hr0 hc0
  have H : (laws_heldIntS.l0 k l0 a1 0) = some r := h
  clear h
  have H' := Aside0.mk H
  clear H
  go_enter Try.func47, Try.ntmps47
  go_wp2
  go_loopg [1, 5] k (fun kq v1 v5 w' => ∃ (x1_1 : Int) (x5_1 : Int), v1 = .int .i64 x1_1 ∧ v5 = .int .i64 x5_1 ∧ Aside0 (laws_heldIntS.l0 kq l0 x1_1 x5_1 = some r) ∧ Aside0 (kq ≤ k) ∧ Drawn0 w w')
  case atStart => exact ⟨(a1), (0), (by first | rfl | (simp; done) | (simp [*]; done)), (by first | rfl | (simp; done) | (simp [*]; done)), H', ⟨Nat.le_refl _⟩, by repeat (first | exact Drawn0.refl _ | apply Drawn0.step)⟩
  case round =>
    clear H'
    try clear p2
    obtain ⟨x1_1, x5_1, rfl, rfl, HA, HK1, ⟨m1, rfl⟩⟩ := hrel
    cases gk with
    | zero => exact absurd HA.out (by simp [laws_heldIntS.l0])
    | succ k1 =>
      have H := HA.out
      clear HA
      simp only [laws_heldIntS.l0] at H
      by_cases c3 : x5_1 < (l0.length : Int)
      · rw [if_pos c3] at H
        have c3b0 : decide (x5_1 < (l0.length : Int)) = true := decide_eq_true c3
        clear c3
        by_cases c4 : 0 ≤ x5_1
        · rw [if_pos c4] at H
          have c4b0 : decide (0 ≤ x5_1) = true := decide_eq_true c4
          clear c4
          by_cases c5 : (rd l0 x5_1) = x1_1
          · rw [if_pos c5] at H
            have c5b0 : ((rd l0 x5_1) == x1_1) = true := beq_iff_eq.mpr c5
            have c5b1 : ((rd l0 x5_1) != x1_1) = false := bne_eq_false_iff_eq.mpr c5
            clear c5
            have H' := Aside0.mk H
            clear H
            have p689 : 0 ≤ (x5_1 : Int) := of_decide_eq_true (by first | (with_reducible assumption) | assumption)
            have q689 : x5_1 < (l0.length : Int) := of_decide_eq_true (by first | (with_reducible assumption) | assumption)
            obtain ⟨ad689, e689, hx689_0⟩ := Kd.at_int HR0.out x5_1 p689 q689
            cases e689
            replace p689 := eq_true p689
            replace q689 := eq_true q689
            go_wp2
            go_roundg k1
            case measure => have := HK1.out; omega
            case rel => exact ⟨(wrap64 (x1_1 + 1)), (wrap64 (x5_1 + 1)), (by first | rfl | (simp; done) | (simp [*]; done)), (by first | rfl | (simp; done) | (simp [*]; done)), H', ⟨by have := HK1.out; omega⟩, by repeat (first | exact Drawn0.refl _ | apply Drawn0.step)⟩
          · rw [if_neg c5] at H
            have c5b0 : ((rd l0 x5_1) == x1_1) = false := beq_eq_false_iff_ne.mpr c5
            have c5b1 : ((rd l0 x5_1) != x1_1) = true := bne_iff_ne.mpr c5
            obtain rfl := Option.some.inj H
            have p689 : 0 ≤ (x5_1 : Int) := of_decide_eq_true (by first | (with_reducible assumption) | assumption)
            have q689 : x5_1 < (l0.length : Int) := of_decide_eq_true (by first | (with_reducible assumption) | assumption)
            obtain ⟨ad689, e689, hx689_0⟩ := Kd.at_int HR0.out x5_1 p689 q689
            cases e689
            replace p689 := eq_true p689
            replace q689 := eq_true q689
            go_wp2
            go_ret
            exact ⟨by first | rfl | (simp; done) | (simp [*]; done), by repeat (first | exact Drawn0.refl _ | apply Drawn0.step)⟩
        · rw [if_neg c4] at H
          exact absurd H (by simp)
      · rw [if_neg c3] at H
        have c3b0 : decide (x5_1 < (l0.length : Int)) = false := decide_eq_false c3
        clear c3
        obtain rfl := Option.some.inj H
        go_wp2
        go_ret
        exact ⟨by first | rfl | (simp; done) | (simp [*]; done), by repeat (first | exact Drawn0.refl _ | apply Drawn0.step)⟩

end Go.Proofs.Ytbdjidjcmmeanaa.P

namespace Go.Proofs.Ytbdjidjcmmeanaa.P
open Go.RowKit Go.Proofs.YtbdjidjcmmeanaaW.PrintWords Go.Proofs.YtbdjidjcmmeanaaW.PrintLast Go.Proofs.YtbdjidjcmmeanaaW.PrintMore
attribute [local go_sem] max2_int min2_int max_two min_two max_three min_three max_four min_four   -- for this text's walks alone
set_option linter.unusedVariables false
set_option linter.unusedSimpArgs false

/-! ### laws_FnExactLeftByClues: function 13 -/
mutual
def laws_FnExactLeftByClues.j0 : Nat → List Int → Bool → List Int → Bool → Bool → Int → List (S34) → Int → List (S37) → Option (Bool)
  | 0, _, _, _, _, _, _, _, _, _ => none
  | k + 1, x4, x5, x7, x8, x40, x691000, x691001, x705000, x705001 => if x40 = true then (some false) else ((laws_toPuzzle.f k x691000 x691001).bind fun bt710 => ((laws_eqPuzzle.f k x705000 x705001 bt710.1 bt710.2).bind fun t714 => (if t714 = true then ((laws_markPuzzle.f k x705000 x705001 1).bind fun bt715 => (if bt715.1 < 0 then (laws_FnExactLeftByClues.j1 k x4 x5 x7 true x691000 x691001) else ((laws_eqIntS.f k x7 x4).bind fun t717 => (if t717 = true then (laws_FnExactLeftByClues.j1 k x4 x5 x7 (x8 != x5) x691000 x691001) else (laws_FnExactLeftByClues.j1 k x4 x5 x7 true x691000 x691001))))) else (some false))))
def laws_FnExactLeftByClues.j1 : Nat → List Int → Bool → List Int → Bool → Int → List (S34) → Option (Bool)
  | 0, _, _, _, _, _, _ => none
  | k + 1, x4, x5, x7, x61, x691000, x691001 => if x61 = true then (some false) else ((laws_markIntS.f k x7 1).bind fun bt718 => ((laws_heldIntS.f k bt718.2 1).bind fun t720 => (if t720 < 0 then (some false) else (if t720 = bt718.1 then ((laws_toPuzzle.f k x691000 x691001).bind fun bt721 => ((impl_LeftByClues.f k bt721.1 bt721.2).bind fun bt725 => ((laws_eqIntS.f k bt725.1 x4).bind fun t729 => (if t729 = true then (laws_FnExactLeftByClues.j2 k bt718.2 bt718.1 (bt725.2 != x5)) else (laws_FnExactLeftByClues.j2 k bt718.2 bt718.1 true))))) else (some false)))))
def laws_FnExactLeftByClues.j2 : Nat → List Int → Int → Bool → Option (Bool)
  | 0, _, _, _ => none
  | k + 1, x7, x10, x87 => if x87 = true then (some false) else ((laws_heldIntS.f k x7 1).bind fun t730 => (if t730 < 0 then (some false) else (if t730 = x10 then (some true) else (some false))))
end
def laws_FnExactLeftByClues.f (k : Nat) (a0_0 : Int) (l0_1 : List (S34)) : Option (Bool) := (laws_szPuzzle.f a0_0 l0_1 1048576).bind fun t691 => (if t691 < 0 then (some true) else ((laws_toPuzzle.f k a0_0 l0_1).bind fun bt692 => ((spec_LeftByClues.f k bt692.1 bt692.2).bind fun bt696 => ((laws_toPuzzle.f k a0_0 l0_1).bind fun bt700 => ((impl_LeftByClues.f k bt700.1 bt700.2).bind fun bt705 => ((laws_eqIntS.f k bt705.1 bt696.1).bind fun t709 => (if t709 = true then (laws_FnExactLeftByClues.j0 k bt696.1 bt696.2 bt705.1 bt705.2 (bt705.2 != bt696.2) a0_0 l0_1 bt700.1 bt700.2) else (laws_FnExactLeftByClues.j0 k bt696.1 bt696.2 bt705.1 bt705.2 true a0_0 l0_1 bt700.1 bt700.2))))))))
set_option maxHeartbeats 8000000 in
set_option maxRecDepth 100000 in
theorem laws_FnExactLeftByClues.calls (k : Nat) (a0_0 : Int) (A0_1 : Option Addr) (c0_1 : Nat) (l0_1 : List (S34)) (r : Bool) (w : World) (hr0_1 : Kd.C k34 w A0_1 l0_1.length l0_1) (hc0_1 : l0_1.length ≤ c0_1) (h : laws_FnExactLeftByClues.f k a0_0 l0_1 = some r) :
    Calls Try.prog 13 #[.agg #[.int .i64 a0_0, .slice A0_1 l0_1.length c0_1]] w fun e w' => e = .returned (.bool r) ∧ Below w.heap.size w w' := by
  have hu24 := Try.underlying24
  have hu29 := Try.underlying29
  have HR0_1 := Aside0.mk hr0_1
  have HC0_1 := Aside0.mk hc0_1
  clear hr0_1 hc0_1
  have HB := Aside0.mk (Below.refl w.heap.size w)
  have H : ((laws_szPuzzle.f a0_0 l0_1 1048576).bind fun t691 => (if t691 < 0 then (some true) else ((laws_toPuzzle.f k a0_0 l0_1).bind fun bt692 => ((spec_LeftByClues.f k bt692.1 bt692.2).bind fun bt696 => ((laws_toPuzzle.f k a0_0 l0_1).bind fun bt700 => ((impl_LeftByClues.f k bt700.1 bt700.2).bind fun bt705 => ((laws_eqIntS.f k bt705.1 bt696.1).bind fun t709 => (if t709 = true then (laws_FnExactLeftByClues.j0 k bt696.1 bt696.2 bt705.1 bt705.2 (bt705.2 != bt696.2) a0_0 l0_1 bt700.1 bt700.2) else (laws_FnExactLeftByClues.j0 k bt696.1 bt696.2 bt705.1 bt705.2 true a0_0 l0_1 bt700.1 bt700.2))))))))) = some r := h
  clear h
  replace H := Option.bind_eq_some_iff.mp H
  obtain ⟨t691, A20, H⟩ := H
  replace H : (if t691 < 0 then (some true) else ((laws_toPuzzle.f k a0_0 l0_1).bind fun bt692 => ((spec_LeftByClues.f k bt692.1 bt692.2).bind fun bt696 => ((laws_toPuzzle.f k a0_0 l0_1).bind fun bt700 => ((impl_LeftByClues.f k bt700.1 bt700.2).bind fun bt705 => ((laws_eqIntS.f k bt705.1 bt696.1).bind fun t709 => (if t709 = true then (laws_FnExactLeftByClues.j0 k bt696.1 bt696.2 bt705.1 bt705.2 (bt705.2 != bt696.2) a0_0 l0_1 bt700.1 bt700.2) else (laws_FnExactLeftByClues.j0 k bt696.1 bt696.2 bt705.1 bt705.2 true a0_0 l0_1 bt700.1 bt700.2)))))))) = some r := H
  have A2 := Aside0.mk A20
  clear A20
  by_cases c3 : t691 < 0
  · rw [if_pos c3] at H
    have c3b0 : decide (t691 < 0) = true := decide_eq_true c3
    clear c3
    obtain rfl := Option.some.inj H
    go_enter Try.func13, Try.ntmps13
    go_wp2_with (first | ((with_reducible refine gate_dst (N := 1) rfl ?_); refine box_event ?hg (N := 1) ?hd (cs := #[.int .i64 a0_0, .slice A0_1 l0_1.length c0_1]) (t := 24) ?hr ?_; (case hd => rfl); (case hg => rfl); (case hr => first | (go_simp; done) | (go_simp; rfl)); intro gb690 hg w4 hbox hb; have n0_ := Aside0.mk (below_step (by repeat (first | (with_reducible first | exact HB.out | apply below_alloc | apply pw_below_drewN | apply below_drew1) | exact HB.out)) hb); have n1_ := Aside0.mk (hbox); have n2_ := Aside0.mk ((by rw [hg]; exact (below_size (by repeat (first | (with_reducible first | exact HB.out | apply below_alloc | apply pw_below_drewN | apply below_drew1) | exact HB.out))) : w.heap.size ≤ gb690)); have n3_ := Aside0.mk ((by rw [hg]; exact (below_size (by repeat (first | (with_reducible first | exact HB.out | apply below_alloc | apply pw_below_drewN | apply below_drew1) | exact HB.out))) : w.heap.size ≤ gb690)); clear HB; have HB := n0_; have BK690 := n1_; have GW690 := n2_; have GE690 := n3_; clear n0_ n1_ n2_ n3_; clear hb hbox hg; have hcz5_0 : w4.cell? ⟨gb690, 0, none⟩ = some (.int .i64 a0_0) := (blk_cell BK690.out 0).trans rfl; have hcz5_1 : w4.cell? ⟨gb690, 1, none⟩ = some (.slice A0_1 l0_1.length c0_1) := (blk_cell BK690.out 1).trans rfl; have hfz5_0 := blk_frozen BK690.out 0; have hfz5_1 := blk_frozen BK690.out 1) | ((with_reducible refine gate_callee (f := 15) rfl ?_); refine goesL_ (some 16) rfl rfl Try.func15 (by kernel_rfl) rfl #[.agg #[.int .i64 a0_0, .slice A0_1 l0_1.length c0_1], .int .i64 1048576] rfl (by (try simp only [List.map_toArray, List.map_cons, List.map_nil]); first | done | rfl | (simp only [List.length_drop, List.length_take]; rfl)) ?_; (with_reducible refine (laws_szPuzzle.calls a0_0 _ _ l0_1 1048576 t691 _ ?side1 ?side2 A2.out).mono ?_); (case side1 => repeat (first | exact (Kd.C_below HR0_1.out HB.out) | (with_reducible refine Kd.C_alloc ?_ _) | (with_reducible refine Kd.C_drewN ?_ _) | (with_reducible refine Kd.C_drew ?_))); (case side2 => exact HC0_1.out); rintro e w6 ⟨rfl, hb⟩; refine ⟨_, rfl, ?_⟩; have n0_ := Aside0.mk (blk_below (g := gb690) (o := .cells #[.int .i64 a0_0, .slice A0_1 l0_1.length c0_1] 24 (0, 0)) (by (with_reducible repeat (first | refine blk_drewN ?_ _ | refine blk_drew ?_ | refine blk_alloc ?_ _)); exact BK690.out) hb); have n1_ := Aside0.mk (below_step (by repeat (first | (with_reducible first | exact HB.out | apply below_alloc | apply pw_below_drewN | apply below_drew1 | refine below_set ?_ GE690.out) | exact HB.out)) hb); clear BK690; clear HB; have BK690 := n0_; have HB := n1_; clear n0_ n1_; (try clear hb); (try clear hb2); (try clear hk); (try clear hi)))
    go_ret
    exact ⟨by first | rfl | (simp [errW_none, errW_some] <;> rfl) | (simp [*, errW_none, errW_some] <;> rfl), by repeat (first | (with_reducible first | exact HB.out | apply below_alloc | apply pw_below_drewN | apply below_drew1 | refine below_set ?_ GE690.out) | exact HB.out)⟩
  · rw [if_neg c3] at H
    have c3b0 : decide (t691 < 0) = false := decide_eq_false c3
    clear c3
    replace H := Option.bind_eq_some_iff.mp H
    obtain ⟨⟨t692, t693⟩, A70, H⟩ := H
    replace H : ((spec_LeftByClues.f k t692 t693).bind fun bt696 => ((laws_toPuzzle.f k a0_0 l0_1).bind fun bt700 => ((impl_LeftByClues.f k bt700.1 bt700.2).bind fun bt705 => ((laws_eqIntS.f k bt705.1 bt696.1).bind fun t709 => (if t709 = true then (laws_FnExactLeftByClues.j0 k bt696.1 bt696.2 bt705.1 bt705.2 (bt705.2 != bt696.2) a0_0 l0_1 bt700.1 bt700.2) else (laws_FnExactLeftByClues.j0 k bt696.1 bt696.2 bt705.1 bt705.2 true a0_0 l0_1 bt700.1 bt700.2)))))) = some r := H
    have A7 := Aside0.mk A70
    clear A70
    replace H := Option.bind_eq_some_iff.mp H
    obtain ⟨⟨t696, t699⟩, A80, H⟩ := H
    replace H : ((laws_toPuzzle.f k a0_0 l0_1).bind fun bt700 => ((impl_LeftByClues.f k bt700.1 bt700.2).bind fun bt705 => ((laws_eqIntS.f k bt705.1 t696).bind fun t709 => (if t709 = true then (laws_FnExactLeftByClues.j0 k t696 t699 bt705.1 bt705.2 (bt705.2 != t699) a0_0 l0_1 bt700.1 bt700.2) else (laws_FnExactLeftByClues.j0 k t696 t699 bt705.1 bt705.2 true a0_0 l0_1 bt700.1 bt700.2))))) = some r := H
    have A8 := Aside0.mk A80
    clear A80
    replace H := Option.bind_eq_some_iff.mp H
    obtain ⟨⟨t700, t701⟩, A90, H⟩ := H
    replace H : ((impl_LeftByClues.f k t700 t701).bind fun bt705 => ((laws_eqIntS.f k bt705.1 t696).bind fun t709 => (if t709 = true then (laws_FnExactLeftByClues.j0 k t696 t699 bt705.1 bt705.2 (bt705.2 != t699) a0_0 l0_1 t700 t701) else (laws_FnExactLeftByClues.j0 k t696 t699 bt705.1 bt705.2 true a0_0 l0_1 t700 t701)))) = some r := H
    have A9 := Aside0.mk A90
    clear A90
    replace H := Option.bind_eq_some_iff.mp H
    obtain ⟨⟨t705, t708⟩, A100, H⟩ := H
    replace H : ((laws_eqIntS.f k t705 t696).bind fun t709 => (if t709 = true then (laws_FnExactLeftByClues.j0 k t696 t699 t705 t708 (t708 != t699) a0_0 l0_1 t700 t701) else (laws_FnExactLeftByClues.j0 k t696 t699 t705 t708 true a0_0 l0_1 t700 t701))) = some r := H
    have A10 := Aside0.mk A100
    clear A100
    have HC11 := Aside0.mk H
    clear H
    go_enter Try.func13, Try.ntmps13
    go_upto_region 8 with (first | ((with_reducible refine gate_dst (N := 1) rfl ?_); refine box_event ?hg (N := 1) ?hd (cs := #[.int .i64 a0_0, .slice A0_1 l0_1.length c0_1]) (t := 24) ?hr ?_; (case hd => rfl); (case hg => rfl); (case hr => first | (go_simp; done) | (go_simp; rfl)); intro gb690 hg w12 hbox hb; have n0_ := Aside0.mk (below_step (by repeat (first | (with_reducible first | exact HB.out | apply below_alloc | apply pw_below_drewN | apply below_drew1) | exact HB.out)) hb); have n1_ := Aside0.mk (hbox); have n2_ := Aside0.mk ((by rw [hg]; exact (below_size (by repeat (first | (with_reducible first | exact HB.out | apply below_alloc | apply pw_below_drewN | apply below_drew1) | exact HB.out))) : w.heap.size ≤ gb690)); have n3_ := Aside0.mk ((by rw [hg]; exact (below_size (by repeat (first | (with_reducible first | exact HB.out | apply below_alloc | apply pw_below_drewN | apply below_drew1) | exact HB.out))) : w.heap.size ≤ gb690)); clear HB; have HB := n0_; have BK690 := n1_; have GW690 := n2_; have GE690 := n3_; clear n0_ n1_ n2_ n3_; clear hb hbox hg; have hcz13_0 : w12.cell? ⟨gb690, 0, none⟩ = some (.int .i64 a0_0) := (blk_cell BK690.out 0).trans rfl; have hcz13_1 : w12.cell? ⟨gb690, 1, none⟩ = some (.slice A0_1 l0_1.length c0_1) := (blk_cell BK690.out 1).trans rfl; have hfz13_0 := blk_frozen BK690.out 0; have hfz13_1 := blk_frozen BK690.out 1) | ((with_reducible refine gate_callee (f := 15) rfl ?_); refine goesL_ (some 16) rfl rfl Try.func15 (by kernel_rfl) rfl #[.agg #[.int .i64 a0_0, .slice A0_1 l0_1.length c0_1], .int .i64 1048576] rfl (by (try simp only [List.map_toArray, List.map_cons, List.map_nil]); first | done | rfl | (simp only [List.length_drop, List.length_take]; rfl)) ?_; (with_reducible refine (laws_szPuzzle.calls a0_0 _ _ l0_1 1048576 t691 _ ?side1 ?side2 A2.out).mono ?_); (case side1 => repeat (first | exact (Kd.C_below HR0_1.out HB.out) | (with_reducible refine Kd.C_alloc ?_ _) | (with_reducible refine Kd.C_drewN ?_ _) | (with_reducible refine Kd.C_drew ?_))); (case side2 => exact HC0_1.out); rintro e w14 ⟨rfl, hb⟩; refine ⟨_, rfl, ?_⟩; have n0_ := Aside0.mk (blk_below (g := gb690) (o := .cells #[.int .i64 a0_0, .slice A0_1 l0_1.length c0_1] 24 (0, 0)) (by (with_reducible repeat (first | refine blk_drewN ?_ _ | refine blk_drew ?_ | refine blk_alloc ?_ _)); exact BK690.out) hb); have n1_ := Aside0.mk (below_step (by repeat (first | (with_reducible first | exact HB.out | apply below_alloc | apply pw_below_drewN | apply below_drew1 | refine below_set ?_ GE690.out) | exact HB.out)) hb); clear BK690; clear HB; have BK690 := n0_; have HB := n1_; clear n0_ n1_; (try clear hb); (try clear hb2); (try clear hk); (try clear hi); have hcz15_0 : w14.cell? ⟨gb690, 0, none⟩ = some (.int .i64 a0_0) := (blk_cell BK690.out 0).trans rfl; have hcz15_1 : w14.cell? ⟨gb690, 1, none⟩ = some (.slice A0_1 l0_1.length c0_1) := (blk_cell BK690.out 1).trans rfl; have hfz15_0 := blk_frozen BK690.out 0; have hfz15_1 := blk_frozen BK690.out 1) | ((with_reducible refine gate_callee (f := 17) rfl ?_); refine goesL_ (some 21) rfl rfl Try.func17 (by kernel_rfl) rfl #[.agg #[.int .i64 a0_0, .slice A0_1 l0_1.length c0_1]] rfl (by (try simp only [List.map_toArray, List.map_cons, List.map_nil]); first | done | rfl | (simp only [List.length_drop, List.length_take]; rfl)) ?_; (with_reducible refine (laws_toPuzzle.calls k a0_0 _ _ l0_1 t692 t693 _ ?side1 ?side2 A7.out).mono ?_); (case side1 => repeat (first | exact (Kd.C_below HR0_1.out HB.out) | (with_reducible refine Kd.C_alloc ?_ _) | (with_reducible refine Kd.C_drewN ?_ _) | (with_reducible refine Kd.C_drew ?_))); (case side2 => exact HC0_1.out); rintro e w16 ⟨v694, rfl, ho0, hb⟩; refine ⟨_, rfl, ?_⟩; have n0_ := Aside0.mk (Kd.R_lower ho0 (below_size (by repeat (first | (with_reducible first | exact HB.out | apply below_alloc | apply pw_below_drewN | apply below_drew1 | refine below_set ?_ GE690.out) | exact HB.out)))); have n1_ := Aside0.mk (blk_below (g := gb690) (o := .cells #[.int .i64 a0_0, .slice A0_1 l0_1.length c0_1] 24 (0, 0)) (by (with_reducible repeat (first | refine blk_drewN ?_ _ | refine blk_drew ?_ | refine blk_alloc ?_ _)); exact BK690.out) hb); have n2_ := Aside0.mk (below_step (by repeat (first | (with_reducible first | exact HB.out | apply below_alloc | apply pw_below_drewN | apply below_drew1 | refine below_set ?_ GE690.out) | exact HB.out)) hb); clear BK690; clear HB; have HO695 := n0_; have BK690 := n1_; have HB := n2_; clear n0_ n1_ n2_; (try clear hb); (try clear hb2); (try clear hk); (try clear hi); (try clear ho0); obtain ⟨Ao17, co17, eo17⟩ := Kd.R_slice HO695.out; subst eo17) | ((with_reducible refine gate_callee (f := 43) rfl ?_); refine goesL_ (some 22) rfl rfl Try.func43 (by kernel_rfl) rfl #[.agg #[.int .i64 t692, .slice Ao17 t693.length co17]] rfl (by (try simp only [List.map_toArray, List.map_cons, List.map_nil]); first | done | rfl | (simp only [List.length_drop, List.length_take]; rfl)) ?_; (with_reducible refine (spec_LeftByClues.calls k t692 _ _ t693 t696 t699 _ ?side1 ?side2 A8.out).mono ?_); (case side1 => repeat (first | exact (Kd.R_reads' HO695.out).2.2 | (with_reducible refine Kd.C_alloc ?_ _) | (with_reducible refine Kd.C_drewN ?_ _) | (with_reducible refine Kd.C_drew ?_))); (case side2 => exact (Kd.R_reads' HO695.out).2.1); rintro e w18 ⟨v697, rfl, ho0, hb⟩; refine ⟨_, rfl, ?_⟩; have n0_ := Aside0.mk (Kd.R_below (by (with_reducible repeat (first | apply Kd.R_alloc | apply Kd.R_drewN | apply Kd.R_drew)); exact HO695.out) hb); have n1_ := Aside0.mk (Kd.R_lower ho0 (below_size (by repeat (first | (with_reducible first | exact HB.out | apply below_alloc | apply pw_below_drewN | apply below_drew1 | refine below_set ?_ GE690.out) | exact HB.out)))); have n2_ := Aside0.mk (blk_below (g := gb690) (o := .cells #[.int .i64 a0_0, .slice A0_1 l0_1.length c0_1] 24 (0, 0)) (by (with_reducible repeat (first | refine blk_drewN ?_ _ | refine blk_drew ?_ | refine blk_alloc ?_ _)); exact BK690.out) hb); have n3_ := Aside0.mk (below_step (by repeat (first | (with_reducible first | exact HB.out | apply below_alloc | apply pw_below_drewN | apply below_drew1 | refine below_set ?_ GE690.out) | exact HB.out)) hb); clear HO695; clear BK690; clear HB; have HO695 := n0_; have HO698 := n1_; have BK690 := n2_; have HB := n3_; clear n0_ n1_ n2_ n3_; (try clear hb); (try clear hb2); (try clear hk); (try clear hi); (try clear ho0); have hcz19_0 : w18.cell? ⟨gb690, 0, none⟩ = some (.int .i64 a0_0) := (blk_cell BK690.out 0).trans rfl; have hcz19_1 : w18.cell? ⟨gb690, 1, none⟩ = some (.slice A0_1 l0_1.length c0_1) := (blk_cell BK690.out 1).trans rfl; have hfz19_0 := blk_frozen BK690.out 0; have hfz19_1 := blk_frozen BK690.out 1) | ((with_reducible refine gate_callee (f := 17) rfl ?_); refine goesL_ (some 26) rfl rfl Try.func17 (by kernel_rfl) rfl #[.agg #[.int .i64 a0_0, .slice A0_1 l0_1.length c0_1]] rfl (by (try simp only [List.map_toArray, List.map_cons, List.map_nil]); first | done | rfl | (simp only [List.length_drop, List.length_take]; rfl)) ?_; (with_reducible refine (laws_toPuzzle.calls k a0_0 _ _ l0_1 t700 t701 _ ?side1 ?side2 A9.out).mono ?_); (case side1 => repeat (first | exact (Kd.C_below HR0_1.out HB.out) | (with_reducible refine Kd.C_alloc ?_ _) | (with_reducible refine Kd.C_drewN ?_ _) | (with_reducible refine Kd.C_drew ?_))); (case side2 => exact HC0_1.out); rintro e w20 ⟨v702, rfl, ho0, hb⟩; refine ⟨_, rfl, ?_⟩; have n0_ := Aside0.mk (Kd.R_elder' (by (with_reducible repeat (first | apply Kd.R_alloc | apply Kd.R_drewN | apply Kd.R_drew)); exact HO695.out) (Kd.R_base ho0) hb); have n1_ := Aside0.mk (Kd.R_below (by (with_reducible repeat (first | apply Kd.R_alloc | apply Kd.R_drewN | apply Kd.R_drew)); exact HO698.out) hb); have n2_ := Aside0.mk (Kd.R_lower (Kd.R_new' ho0 (Kd.R_lt (by (with_reducible repeat (first | apply Kd.R_alloc | apply Kd.R_drewN | apply Kd.R_drew)); exact HO695.out))) (below_size (by repeat (first | (with_reducible first | exact HB.out | apply below_alloc | apply pw_below_drewN | apply below_drew1 | refine below_set ?_ GE690.out) | exact HB.out)))); have n3_ := Aside0.mk (blk_below (g := gb690) (o := .cells #[.int .i64 a0_0, .slice A0_1 l0_1.length c0_1] 24 (0, 0)) (by (with_reducible repeat (first | refine blk_drewN ?_ _ | refine blk_drew ?_ | refine blk_alloc ?_ _)); exact BK690.out) hb); have n4_ := Aside0.mk (below_step (by repeat (first | (with_reducible first | exact HB.out | apply below_alloc | apply pw_below_drewN | apply below_drew1 | refine below_set ?_ GE690.out) | exact HB.out)) hb); clear HO695; clear HO698; clear BK690; clear HB; have HO695 := n0_; have HO698 := n1_; have HO703 := n2_; have BK690 := n3_; have HB := n4_; clear n0_ n1_ n2_ n3_ n4_; (try clear hb); (try clear hb2); (try clear hk); (try clear hi); (try clear ho0)) | ((with_reducible refine gate_dst (N := 6) rfl ?_); refine box_event ?hg (N := 6) ?hd (cs := #[.int .i64 0, .slice none 0 0]) (t := 29) ?hr ?_; (case hd => rfl); (case hg => rfl); (case hr => first | (go_simp; done) | (go_simp; rfl)); intro gb704 hg w21 hbox hb; have n0_ := Aside0.mk (Kd.R_below (by (with_reducible repeat (first | apply Kd.R_alloc | apply Kd.R_drewN | apply Kd.R_drew)); exact HO695.out) hb); have n1_ := Aside0.mk (Kd.R_below (by (with_reducible repeat (first | apply Kd.R_alloc | apply Kd.R_drewN | apply Kd.R_drew)); exact HO698.out) hb); have n2_ := Aside0.mk (Kd.R_below (by (with_reducible repeat (first | apply Kd.R_alloc | apply Kd.R_drewN | apply Kd.R_drew)); exact HO703.out) hb); have n3_ := Aside0.mk (blk_below (g := gb690) (o := .cells #[.int .i64 a0_0, .slice A0_1 l0_1.length c0_1] 24 (0, 0)) (by (with_reducible repeat (first | refine blk_drewN ?_ _ | refine blk_drew ?_ | refine blk_alloc ?_ _)); exact BK690.out) hb); have n4_ := Aside0.mk (below_step (by repeat (first | (with_reducible first | exact HB.out | apply below_alloc | apply pw_below_drewN | apply below_drew1 | refine below_set ?_ GE690.out) | exact HB.out)) hb); have n5_ := Aside0.mk (hbox); have n6_ := Aside0.mk ((by rw [hg]; exact (below_size (by repeat (first | (with_reducible first | exact HB.out | apply below_alloc | apply pw_below_drewN | apply below_drew1 | refine below_set ?_ GE690.out) | exact HB.out))) : w.heap.size ≤ gb704)); have n7_ := Aside0.mk ((by rw [hg]; exact (below_size (by repeat (first | (with_reducible first | exact HB.out | apply below_alloc | apply pw_below_drewN | apply below_drew1 | refine below_set ?_ GE690.out) | exact HB.out))) : w.heap.size ≤ gb704)); have n8_ := Aside0.mk ((by rw [hg]; exact Nat.ne_of_lt (blk_lt (g := gb690) (o := .cells #[.int .i64 a0_0, .slice A0_1 l0_1.length c0_1] 24 (0, 0)) (by (with_reducible repeat (first | refine blk_drewN ?_ _ | refine blk_drew ?_ | refine blk_alloc ?_ _)); exact BK690.out)) : gb690 ≠ gb704)); have n9_ := Aside0.mk ((by rw [hg]; exact Nat.ne_of_gt (blk_lt (g := gb690) (o := .cells #[.int .i64 a0_0, .slice A0_1 l0_1.length c0_1] 24 (0, 0)) (by (with_reducible repeat (first | refine blk_drewN ?_ _ | refine blk_drew ?_ | refine blk_alloc ?_ _)); exact BK690.out)) : gb704 ≠ gb690)); clear HO695; clear HO698; clear HO703; clear BK690; clear HB; have HO695 := n0_; have HO698 := n1_; have HO703 := n2_; have BK690 := n3_; have HB := n4_; have BK704 := n5_; have GW704 := n6_; have GE704 := n7_; have NB690_704 := n8_; have NB704_690 := n9_; clear n0_ n1_ n2_ n3_ n4_ n5_ n6_ n7_ n8_ n9_; clear hb hbox hg; have hnb22 := NB704_690.out; have hnc22 := NB690_704.out; have hcz23_0 : w21.cell? ⟨gb704, 0, none⟩ = some (.int .i64 0) := (blk_cell BK704.out 0).trans rfl; have hcz23_1 : w21.cell? ⟨gb704, 1, none⟩ = some (.slice none 0 0) := (blk_cell BK704.out 1).trans rfl; have hfz23_0 := blk_frozen BK704.out 0; have hfz23_1 := blk_frozen BK704.out 1; obtain ⟨Ao24, co24, eo24⟩ := Kd.R_slice HO703.out; subst eo24) | ((with_reducible refine gate_callee (f := 44) rfl ?_); refine goesL_ (some 29) rfl rfl Try.func44 (by kernel_rfl) rfl #[.agg #[.int .i64 t700, .slice Ao24 t701.length co24]] rfl (by (try simp only [List.map_toArray, List.map_cons, List.map_nil]); first | done | rfl | (simp only [List.length_drop, List.length_take]; rfl)) ?_; (with_reducible refine (impl_LeftByClues.calls k t700 _ _ t701 t705 t708 _ ?side1 ?side2 A10.out).mono ?_); (case side1 => refine (Kd.R_reads' (e := 37) (base := w.heap.size) (ok := fun k_ => (True ∧ some k_ ≠ (.slice Ao17 t693.length co17 : Value).ownBlock)) (n := t701.length) (c := co24) ?_).2.2; exact (by (with_reducible repeat (first | apply Kd.R_alloc | apply Kd.R_drewN | apply Kd.R_drew)); exact (Kd.R_mono (Kd.R_far (p := ⟨gb704, 1, none⟩) (Kd.R_far (p := ⟨gb704, 0, none⟩) (Kd.R_types HO703.out BK704.out (by decide)) (fun _ hk => hk.2) (.int .i64 t700)) (fun _ hk => hk.2) (.slice Ao24 t701.length co24)) (fun _ h_ => h_.1)))); (case side2 => exact (Kd.R_reads' HO703.out).2.1); rintro e w25 ⟨v706, rfl, ho0, hb⟩; refine ⟨_, rfl, ?_⟩; have n0_ := Aside0.mk (Kd.R_below (by (with_reducible repeat (first | apply Kd.R_alloc | apply Kd.R_drewN | apply Kd.R_drew)); exact (Kd.R_mono (Kd.R_far (p := ⟨gb704, 1, none⟩) (Kd.R_far (p := ⟨gb704, 0, none⟩) (Kd.R_types HO695.out BK704.out (by decide)) (fun _ hk => hk.2) (.int .i64 t700)) (fun _ hk => hk.2) (.slice Ao24 t701.length co24)) (fun _ h_ => h_.1))) hb); have n1_ := Aside0.mk (Kd.R_elder' (by (with_reducible repeat (first | apply Kd.R_alloc | apply Kd.R_drewN | apply Kd.R_drew)); exact (Kd.R_mono (Kd.R_far (p := ⟨gb704, 1, none⟩) (Kd.R_far (p := ⟨gb704, 0, none⟩) (Kd.R_types HO698.out BK704.out (by decide)) (fun _ hk => hk.2) (.int .i64 t700)) (fun _ hk => hk.2) (.slice Ao24 t701.length co24)) (fun _ h_ => h_.1))) (Kd.R_base ho0) hb); have n2_ := Aside0.mk (Kd.R_below (by (with_reducible repeat (first | apply Kd.R_alloc | apply Kd.R_drewN | apply Kd.R_drew)); exact (Kd.R_mono (Kd.R_far (p := ⟨gb704, 1, none⟩) (Kd.R_far (p := ⟨gb704, 0, none⟩) (Kd.R_types HO703.out BK704.out (by decide)) (fun _ hk => hk.2) (.int .i64 t700)) (fun _ hk => hk.2) (.slice Ao24 t701.length co24)) (fun _ h_ => h_.1))) hb); have n3_ := Aside0.mk (Kd.R_lower (Kd.R_new' ho0 (Kd.R_lt (by (with_reducible repeat (first | apply Kd.R_alloc | apply Kd.R_drewN | apply Kd.R_drew)); exact (Kd.R_mono (Kd.R_far (p := ⟨gb704, 1, none⟩) (Kd.R_far (p := ⟨gb704, 0, none⟩) (Kd.R_types HO698.out BK704.out (by decide)) (fun _ hk => hk.2) (.int .i64 t700)) (fun _ hk => hk.2) (.slice Ao24 t701.length co24)) (fun _ h_ => h_.1))))) (below_size (by repeat (first | (with_reducible first | exact HB.out | apply below_alloc | apply pw_below_drewN | apply below_drew1 | refine below_set ?_ GE690.out | refine below_set ?_ GE704.out) | exact HB.out)))); have n4_ := Aside0.mk (blk_below (g := gb690) (o := .cells #[.int .i64 a0_0, .slice A0_1 l0_1.length c0_1] 24 (0, 0)) (by (with_reducible repeat (first | refine blk_drewN ?_ _ | refine blk_drew ?_ | refine blk_alloc ?_ _)); refine blk_far ?_ NB690_704.out _; (with_reducible repeat (first | refine blk_drewN ?_ _ | refine blk_drew ?_ | refine blk_alloc ?_ _)); refine blk_far ?_ NB690_704.out _; (with_reducible repeat (first | refine blk_drewN ?_ _ | refine blk_drew ?_ | refine blk_alloc ?_ _)); exact BK690.out) hb); have n5_ := Aside0.mk (blk_below (g := gb704) (o := .cells #[.int .i64 t700, .slice Ao24 t701.length co24] 29 (0, 0)) (by (with_reducible repeat (first | refine blk_drewN ?_ _ | refine blk_drew ?_ | refine blk_alloc ?_ _)); refine blk_put (cs := #[.int .i64 t700, .slice none 0 0]) ?_ 1 _ rfl; (with_reducible repeat (first | refine blk_drewN ?_ _ | refine blk_drew ?_ | refine blk_alloc ?_ _)); refine blk_put (cs := #[.int .i64 0, .slice none 0 0]) ?_ 0 _ rfl; (with_reducible repeat (first | refine blk_drewN ?_ _ | refine blk_drew ?_ | refine blk_alloc ?_ _)); exact BK704.out) hb); have n6_ := Aside0.mk (below_step (by repeat (first | (with_reducible first | exact HB.out | apply below_alloc | apply pw_below_drewN | apply below_drew1 | refine below_set ?_ GE690.out | refine below_set ?_ GE704.out) | exact HB.out)) hb); clear HO695; clear HO698; clear HO703; clear BK690; clear BK704; clear HB; have HO695 := n0_; have HO698 := n1_; have HO703 := n2_; have HO707 := n3_; have BK690 := n4_; have BK704 := n5_; have HB := n6_; clear n0_ n1_ n2_ n3_ n4_ n5_ n6_; (try clear hb); (try clear hb2); (try clear hk); (try clear hi); (try clear ho0)))
    (try simp only [Act.put, List.setIfInBounds_toArray, List.set_cons_zero, List.set_cons_succ])
    go_cut [40] (fun v40 wc => ∃ (kq : Nat) (x40_10 : Bool), v40 = .bool x40_10 ∧ Aside0 (laws_FnExactLeftByClues.j0 kq t696 t699 t705 t708 x40_10 a0_0 l0_1 t700 t701 = some r) ∧ Aside0 (kq ≤ k) ∧ Aside0 (Kd.R (Kd.int .i64) 3 wc w.heap.size (fun k_ => some k_ ≠ (v706 : Value).ownBlock) v697 t696) ∧ Aside0 (Kd.R (Kd.int .i64) 3 wc w.heap.size (fun k_ => some k_ ≠ (v697 : Value).ownBlock) v706 t705) ∧ Aside0 (Kd.R k37 37 wc w.heap.size (fun _ => True) (.slice Ao24 t701.length co24) t701) ∧ Aside0 (wc.heap[gb690]? = some (.cells #[.int .i64 a0_0, (.slice A0_1 l0_1.length c0_1)] 24 (0, 0))) ∧ Aside0 (wc.heap[gb704]? = some (.cells #[.int .i64 t700, (.slice Ao24 t701.length co24)] 29 (0, 0))) ∧ Aside0 (Below w.heap.size w wc))
    case first =>
      have H := HC11.out
      clear HC11
      replace H := Option.bind_eq_some_iff.mp H
      obtain ⟨t709, A260, H⟩ := H
      replace H : (if t709 = true then (laws_FnExactLeftByClues.j0 k t696 t699 t705 t708 (t708 != t699) a0_0 l0_1 t700 t701) else (laws_FnExactLeftByClues.j0 k t696 t699 t705 t708 true a0_0 l0_1 t700 t701)) = some r := H
      have A26 := Aside0.mk A260
      clear A260
      by_cases c27 : t709 = true
      · subst c27
        have H1 : (laws_FnExactLeftByClues.j0 k t696 t699 t705 t708 (t708 != t699) a0_0 l0_1 t700 t701) = some r := by rw [if_pos rfl] at H; exact H
        clear H
        have H := H1
        clear H1
        have H' := Aside0.mk H
        clear H
        obtain ⟨Ao28, co28, eo28⟩ := Kd.R_slice HO707.out
        subst eo28
        obtain ⟨Ao29, co29, eo29⟩ := Kd.R_slice HO698.out
        subst eo29
        go_wp2_with (first | ((with_reducible refine gate_callee (f := 45) rfl ?_); refine goesL_ (some 34) rfl rfl Try.func45 (by kernel_rfl) rfl #[.slice Ao28 t705.length co28, .slice Ao29 t696.length co29] rfl (by (try simp only [List.map_toArray, List.map_cons, List.map_nil]); first | done | rfl | (simp only [List.length_drop, List.length_take]; rfl)) ?_; (with_reducible refine (laws_eqIntS.calls k _ _ t705 _ _ t696 true _ ?side1 ?side2 ?side3 ?side4 A26.out).mono ?_); (case side1 => repeat (first | exact (Kd.R_reads' HO707.out).2.2 | (with_reducible refine Kd.C_alloc ?_ _) | (with_reducible refine Kd.C_drewN ?_ _) | (with_reducible refine Kd.C_drew ?_))); (case side2 => exact (Kd.R_reads' HO707.out).2.1); (case side3 => repeat (first | exact (Kd.R_reads' HO698.out).2.2 | (with_reducible refine Kd.C_alloc ?_ _) | (with_reducible refine Kd.C_drewN ?_ _) | (with_reducible refine Kd.C_drew ?_))); (case side4 => exact (Kd.R_reads' HO698.out).2.1); rintro e w' ⟨rfl, ⟨nd, rfl⟩⟩; refine ⟨_, rfl, ?_⟩))
        go_meet
        case rel => exact ⟨_, ((t708 != t699)), (by first | rfl | (simp; done) | (simp [*]; done)), H', ⟨by first | omega | exact Nat.le_refl _⟩, ⟨by (with_reducible repeat (first | apply Kd.R_alloc | apply Kd.R_drewN | apply Kd.R_drew)); exact Kd.R_mono HO698.out (fun _ hk => hk.2)⟩, ⟨by (with_reducible repeat (first | apply Kd.R_alloc | apply Kd.R_drewN | apply Kd.R_drew)); exact Kd.R_mono HO707.out (fun _ hk => hk.2)⟩, ⟨by (with_reducible repeat (first | apply Kd.R_alloc | apply Kd.R_drewN | apply Kd.R_drew)); exact Kd.R_mono HO703.out (fun _ hk => trivial)⟩, ⟨by (with_reducible repeat (first | refine blk_drewN ?_ _ | refine blk_drew ?_ | refine blk_alloc ?_ _)); exact BK690.out⟩, ⟨by (with_reducible repeat (first | refine blk_drewN ?_ _ | refine blk_drew ?_ | refine blk_alloc ?_ _)); exact BK704.out⟩, ⟨by repeat (first | (with_reducible first | exact HB.out | apply below_alloc | apply pw_below_drewN | apply below_drew1 | refine below_set ?_ GE690.out | refine below_set ?_ GE704.out) | exact HB.out)⟩⟩
      · replace c27 := Bool.eq_false_iff.mpr c27
        subst c27
        have H1 : (laws_FnExactLeftByClues.j0 k t696 t699 t705 t708 true a0_0 l0_1 t700 t701) = some r := by rw [if_neg (show ¬ (false = true) by decide)] at H; exact H
        clear H
        have H := H1
        clear H1
        have H' := Aside0.mk H
        clear H
        obtain ⟨Ao30, co30, eo30⟩ := Kd.R_slice HO707.out
        subst eo30
        obtain ⟨Ao31, co31, eo31⟩ := Kd.R_slice HO698.out
        subst eo31
        go_wp2_with (first | ((with_reducible refine gate_callee (f := 45) rfl ?_); refine goesL_ (some 34) rfl rfl Try.func45 (by kernel_rfl) rfl #[.slice Ao30 t705.length co30, .slice Ao31 t696.length co31] rfl (by (try simp only [List.map_toArray, List.map_cons, List.map_nil]); first | done | rfl | (simp only [List.length_drop, List.length_take]; rfl)) ?_; (with_reducible refine (laws_eqIntS.calls k _ _ t705 _ _ t696 false _ ?side1 ?side2 ?side3 ?side4 A26.out).mono ?_); (case side1 => repeat (first | exact (Kd.R_reads' HO707.out).2.2 | (with_reducible refine Kd.C_alloc ?_ _) | (with_reducible refine Kd.C_drewN ?_ _) | (with_reducible refine Kd.C_drew ?_))); (case side2 => exact (Kd.R_reads' HO707.out).2.1); (case side3 => repeat (first | exact (Kd.R_reads' HO698.out).2.2 | (with_reducible refine Kd.C_alloc ?_ _) | (with_reducible refine Kd.C_drewN ?_ _) | (with_reducible refine Kd.C_drew ?_))); (case side4 => exact (Kd.R_reads' HO698.out).2.1); rintro e w' ⟨rfl, ⟨nd, rfl⟩⟩; refine ⟨_, rfl, ?_⟩))
        go_meet
        case rel => exact ⟨_, (true), (by first | rfl | (simp; done) | (simp [*]; done)), H', ⟨by first | omega | exact Nat.le_refl _⟩, ⟨by (with_reducible repeat (first | apply Kd.R_alloc | apply Kd.R_drewN | apply Kd.R_drew)); exact Kd.R_mono HO698.out (fun _ hk => hk.2)⟩, ⟨by (with_reducible repeat (first | apply Kd.R_alloc | apply Kd.R_drewN | apply Kd.R_drew)); exact Kd.R_mono HO707.out (fun _ hk => hk.2)⟩, ⟨by (with_reducible repeat (first | apply Kd.R_alloc | apply Kd.R_drewN | apply Kd.R_drew)); exact Kd.R_mono HO703.out (fun _ hk => trivial)⟩, ⟨by (with_reducible repeat (first | refine blk_drewN ?_ _ | refine blk_drew ?_ | refine blk_alloc ?_ _)); exact BK690.out⟩, ⟨by (with_reducible repeat (first | refine blk_drewN ?_ _ | refine blk_drew ?_ | refine blk_alloc ?_ _)); exact BK704.out⟩, ⟨by repeat (first | (with_reducible first | exact HB.out | apply below_alloc | apply pw_below_drewN | apply below_drew1 | refine below_set ?_ GE690.out | refine below_set ?_ GE704.out) | exact HB.out)⟩⟩
    case rest =>
      clear HC11
      try clear c1
      try clear c2
      try clear p2
      try clear c3
      try clear c3b0
      try clear c4
      try clear c13
      try clear c15
      try clear c17
      try clear c22
      try clear c27
      try clear hcz13_0
      try clear hcz13_1
      try clear hcz15_0
      try clear hcz15_1
      try clear hcz19_0
      try clear hcz19_1
      try clear hcz23_0
      try clear hcz23_1
      try clear hcz5_0
      try clear hcz5_1
      try clear hfz13_0
      try clear hfz13_1
      try clear hfz15_0
      try clear hfz15_1
      try clear hfz19_0
      try clear hfz19_1
      try clear hfz23_0
      try clear hfz23_1
      try clear hfz5_0
      try clear hfz5_1
      obtain ⟨kq, x40_10, rfl, HA, HJ10, HO_4, HO_7, HO_705001, BK690, BK704, HB⟩ := hcut
      cases kq with
      | zero => exact absurd HA.out (by simp [laws_FnExactLeftByClues.j0])
      | succ kj10 =>
        have H := HA.out
        clear HA
        simp only [laws_FnExactLeftByClues.j0] at H
        by_cases c32 : x40_10 = true
        · subst c32
          have H1 : (some false) = some r := by rw [if_pos rfl] at H; exact H
          clear H
          have H := H1
          clear H1
          obtain rfl := Option.some.inj H
          go_wp2
          go_ret
          exact ⟨by first | rfl | (simp [errW_none, errW_some] <;> rfl) | (simp [*, errW_none, errW_some] <;> rfl), by repeat (first | (with_reducible first | exact HB.out | apply below_alloc | apply pw_below_drewN | apply below_drew1 | refine below_set ?_ GE690.out | refine below_set ?_ GE704.out) | exact HB.out)⟩
        · replace c32 := Bool.eq_false_iff.mpr c32
          subst c32
          have H1 : ((laws_toPuzzle.f kj10 a0_0 l0_1).bind fun bt710 => ((laws_eqPuzzle.f kj10 t700 t701 bt710.1 bt710.2).bind fun t714 => (if t714 = true then ((laws_markPuzzle.f kj10 t700 t701 1).bind fun bt715 => (if bt715.1 < 0 then (laws_FnExactLeftByClues.j1 kj10 t696 t699 t705 true a0_0 l0_1) else ((laws_eqIntS.f kj10 t705 t696).bind fun t717 => (if t717 = true then (laws_FnExactLeftByClues.j1 kj10 t696 t699 t705 (t708 != t699) a0_0 l0_1) else (laws_FnExactLeftByClues.j1 kj10 t696 t699 t705 true a0_0 l0_1))))) else (some false)))) = some r := by rw [if_neg (show ¬ (false = true) by decide)] at H; exact H
          clear H
          have H := H1
          clear H1
          replace H := Option.bind_eq_some_iff.mp H
          obtain ⟨⟨t710, t711⟩, A330, H⟩ := H
          replace H : ((laws_eqPuzzle.f kj10 t700 t701 t710 t711).bind fun t714 => (if t714 = true then ((laws_markPuzzle.f kj10 t700 t701 1).bind fun bt715 => (if bt715.1 < 0 then (laws_FnExactLeftByClues.j1 kj10 t696 t699 t705 true a0_0 l0_1) else ((laws_eqIntS.f kj10 t705 t696).bind fun t717 => (if t717 = true then (laws_FnExactLeftByClues.j1 kj10 t696 t699 t705 (t708 != t699) a0_0 l0_1) else (laws_FnExactLeftByClues.j1 kj10 t696 t699 t705 true a0_0 l0_1))))) else (some false))) = some r := H
          have A33 := Aside0.mk A330
          clear A330
          replace H := Option.bind_eq_some_iff.mp H
          obtain ⟨t714, A340, H⟩ := H
          replace H : (if t714 = true then ((laws_markPuzzle.f kj10 t700 t701 1).bind fun bt715 => (if bt715.1 < 0 then (laws_FnExactLeftByClues.j1 kj10 t696 t699 t705 true a0_0 l0_1) else ((laws_eqIntS.f kj10 t705 t696).bind fun t717 => (if t717 = true then (laws_FnExactLeftByClues.j1 kj10 t696 t699 t705 (t708 != t699) a0_0 l0_1) else (laws_FnExactLeftByClues.j1 kj10 t696 t699 t705 true a0_0 l0_1))))) else (some false)) = some r := H
          have A34 := Aside0.mk A340
          clear A340
          by_cases c35 : t714 = true
          · subst c35
            have H1 : ((laws_markPuzzle.f kj10 t700 t701 1).bind fun bt715 => (if bt715.1 < 0 then (laws_FnExactLeftByClues.j1 kj10 t696 t699 t705 true a0_0 l0_1) else ((laws_eqIntS.f kj10 t705 t696).bind fun t717 => (if t717 = true then (laws_FnExactLeftByClues.j1 kj10 t696 t699 t705 (t708 != t699) a0_0 l0_1) else (laws_FnExactLeftByClues.j1 kj10 t696 t699 t705 true a0_0 l0_1))))) = some r := by rw [if_pos rfl] at H; exact H
            clear H
            have H := H1
            clear H1
            replace H := Option.bind_eq_some_iff.mp H
            obtain ⟨⟨t715, t716⟩, A360, H⟩ := H
            replace H : (if t715 < 0 then (laws_FnExactLeftByClues.j1 kj10 t696 t699 t705 true a0_0 l0_1) else ((laws_eqIntS.f kj10 t705 t696).bind fun t717 => (if t717 = true then (laws_FnExactLeftByClues.j1 kj10 t696 t699 t705 (t708 != t699) a0_0 l0_1) else (laws_FnExactLeftByClues.j1 kj10 t696 t699 t705 true a0_0 l0_1)))) = some r := H
            have A36 := Aside0.mk A360
            clear A360
            have HC37 := Aside0.mk H
            clear H
            try go_wp2
            have n0_ := Aside0.mk (Kd.R_drew HO_4.out)
            have n1_ := Aside0.mk (Kd.R_drew HO_7.out)
            have n2_ := Aside0.mk (Kd.R_drew HO_705001.out)
            have n3_ := Aside0.mk (blk_drew BK690.out)
            have n4_ := Aside0.mk (blk_drew BK704.out)
            have n5_ := Aside0.mk (below_drew1 HB.out)
            clear HO_4
            clear HO_7
            clear HO_705001
            clear BK690
            clear BK704
            clear HB
            have HO_4 := n0_
            have HO_7 := n1_
            have HO_705001 := n2_
            have BK690 := n3_
            have BK704 := n4_
            have HB := n5_
            clear n0_ n1_ n2_ n3_ n4_ n5_
            refine start_ (n := 5) (S := fun w' => w'.cell? ⟨gb704, 0, none⟩ = some (.int .i64 t700) ∧ w'.cell? ⟨gb704, 1, none⟩ = some (.slice Ao24 t701.length co24) ∧ w'.cell? ⟨gb690, 0, none⟩ = some (.int .i64 a0_0) ∧ w'.cell? ⟨gb690, 1, none⟩ = some (.slice A0_1 l0_1.length c0_1)) (ds := []) #[false, false, false, false, false] (by kernel_rfl) rfl rfl ⟨(blk_cell BK704.out 0).trans rfl, (blk_cell BK704.out 1).trans rfl, (blk_cell BK690.out 0).trans rfl, (blk_cell BK690.out 1).trans rfl⟩ (fun hHeld => ?_)
            generalize wc.drew = w38 at HO_4 HO_7 HO_705001 BK690 BK704 HB hHeld ⊢
            refine take_ (i := 0) (N := some 41) (v := ?_) (a' := ?_) #[true, false, false, false, false] rfl rfl (by kernel_rfl) (fun _ _ _ h => h) (Or.inl ⟨by rfl, ?_⟩) hHeld ?_ ?_
            rotate_left
            · rintro w' ⟨s0, s1, s2, s3⟩
              go_simp
              with_reducible rfl
            rotate_left
            · simp only [Act.put, List.setIfInBounds_toArray, List.set_cons_zero, List.set_cons_succ, i64_w, i32_w]
              rfl
            refine take_ (i := 1) (N := some 42) (v := ?_) (a' := ?_) #[true, true, false, false, false] rfl rfl (by kernel_rfl) (fun _ _ _ h => h) (Or.inl ⟨by rfl, ?_⟩) hHeld ?_ ?_
            rotate_left
            · rintro w' ⟨s0, s1, s2, s3⟩
              go_simp
              with_reducible rfl
            rotate_left
            · simp only [Act.put, List.setIfInBounds_toArray, List.set_cons_zero, List.set_cons_succ, i64_w, i32_w]
              rfl
            refine one_ (i := 2) (N := some 43) #[true, true, true, false, false] rfl rfl (by kernel_rfl) (by decide) (fun K hK => ?_)
            refine goes_ Try.func17 (by kernel_rfl) rfl #[.agg #[.int .i64 a0_0, .slice A0_1 l0_1.length c0_1]] (by rfl) rfl rfl (by (try simp only [List.map_toArray, List.map_cons, List.map_nil]); first | done | rfl | (simp only [List.length_drop, List.length_take]; rfl)) ?_
            with_reducible refine (laws_toPuzzle.calls kj10 a0_0 _ _ l0_1 t710 t711 _ ?side1 ?side2 A33.out).mono ?_
            (case side1 => repeat (first | exact (Kd.C_below HR0_1.out HB.out) | (with_reducible refine Kd.C_alloc ?_ _) | (with_reducible refine Kd.C_drewN ?_ _) | (with_reducible refine Kd.C_drew ?_)))
            (case side2 => exact HC0_1.out)
            rintro e w39 ⟨v712, rfl, ho0, hb⟩
            refine ⟨_, rfl, ?_⟩
            have n0_ := Aside0.mk (Kd.R_below (by (with_reducible repeat (first | apply Kd.R_alloc | apply Kd.R_drewN | apply Kd.R_drew)); exact HO_4.out) hb)
            have n1_ := Aside0.mk (Kd.R_below (by (with_reducible repeat (first | apply Kd.R_alloc | apply Kd.R_drewN | apply Kd.R_drew)); exact HO_7.out) hb)
            have n2_ := Aside0.mk (Kd.R_elder' (by (with_reducible repeat (first | apply Kd.R_alloc | apply Kd.R_drewN | apply Kd.R_drew)); exact HO_705001.out) (Kd.R_base ho0) hb)
            have n3_ := Aside0.mk (Kd.R_lower (Kd.R_new' ho0 (Kd.R_lt (by (with_reducible repeat (first | apply Kd.R_alloc | apply Kd.R_drewN | apply Kd.R_drew)); exact HO_705001.out))) (below_size (by repeat (first | (with_reducible first | exact HB.out | apply below_alloc | apply pw_below_drewN | apply below_drew1 | refine below_set ?_ GE690.out | refine below_set ?_ GE704.out) | exact HB.out))))
            have n4_ := Aside0.mk (blk_below (g := gb690) (o := .cells #[.int .i64 a0_0, .slice A0_1 l0_1.length c0_1] 24 (0, 0)) (by (with_reducible repeat (first | refine blk_drewN ?_ _ | refine blk_drew ?_ | refine blk_alloc ?_ _)); exact BK690.out) hb)
            have n5_ := Aside0.mk (blk_below (g := gb704) (o := .cells #[.int .i64 t700, .slice Ao24 t701.length co24] 29 (0, 0)) (by (with_reducible repeat (first | refine blk_drewN ?_ _ | refine blk_drew ?_ | refine blk_alloc ?_ _)); exact BK704.out) hb)
            have n6_ := Aside0.mk (below_step (by repeat (first | (with_reducible first | exact HB.out | apply below_alloc | apply pw_below_drewN | apply below_drew1 | refine below_set ?_ GE690.out | refine below_set ?_ GE704.out) | exact HB.out)) hb)
            clear HO_4
            clear HO_7
            clear HO_705001
            clear BK690
            clear BK704
            clear HB
            have HO_4 := n0_
            have HO_7 := n1_
            have HO_705001 := n2_
            have HO713 := n3_
            have BK690 := n4_
            have BK704 := n5_
            have HB := n6_
            clear n0_ n1_ n2_ n3_ n4_ n5_ n6_
            (try clear hb)
            (try clear hb2)
            (try clear hk)
            (try clear hi)
            (try clear ho0)
            obtain ⟨Ao40, co40, eo40⟩ := Kd.R_slice HO713.out
            (first | subst eo40 | (injection eo40 with f1_ f2_ f3_; have f4_ := f1_.symm; have f5_ := f3_.symm; clear f1_ f2_ f3_; subst f4_; subst f5_))
            refine hK.out _ _ ⟨(blk_cell BK704.out 0).trans rfl, (blk_cell BK704.out 1).trans rfl, (blk_cell BK690.out 0).trans rfl, (blk_cell BK690.out 1).trans rfl⟩ (fun hHeld => ?_)
            clear hK K
            refine norm_ (a' := ?_) ?_ ?_
            rotate_left
            · show Act.put _ (some 43) _ = _
              simp only [Act.put, List.setIfInBounds_toArray, List.set_cons_zero, List.set_cons_succ, i64_w, i32_w]
              rfl
            refine one_ (i := 3) (N := some 44) #[true, true, true, true, false] rfl rfl (by kernel_rfl) (by decide) (fun K hK => ?_)
            refine goes_ Try.func19 (by kernel_rfl) rfl #[.agg #[.int .i64 t700, .slice Ao24 t701.length co24], .agg #[.int .i64 t710, .slice Ao40 t711.length co40]] (by rfl) rfl rfl (by (try simp only [List.map_toArray, List.map_cons, List.map_nil]); first | done | rfl | (simp only [List.length_drop, List.length_take]; rfl)) ?_
            with_reducible refine (laws_eqPuzzle.calls kj10 t700 _ _ t701 t710 _ _ t711 true _ ?side1 ?side2 ?side3 ?side4 A34.out).mono ?_
            (case side1 => repeat (first | exact (Kd.R_reads' HO_705001.out).2.2 | (with_reducible refine Kd.C_alloc ?_ _) | (with_reducible refine Kd.C_drewN ?_ _) | (with_reducible refine Kd.C_drew ?_)))
            (case side2 => exact (Kd.R_reads' HO_705001.out).2.1)
            (case side3 => repeat (first | exact (Kd.R_reads' HO713.out).2.2 | (with_reducible refine Kd.C_alloc ?_ _) | (with_reducible refine Kd.C_drewN ?_ _) | (with_reducible refine Kd.C_drew ?_)))
            (case side4 => exact (Kd.R_reads' HO713.out).2.1)
            rintro e w41 ⟨rfl, hb⟩
            refine ⟨_, rfl, ?_⟩
            have n0_ := Aside0.mk (Kd.R_below (by (with_reducible repeat (first | apply Kd.R_alloc | apply Kd.R_drewN | apply Kd.R_drew)); exact HO_4.out) hb)
            have n1_ := Aside0.mk (Kd.R_below (by (with_reducible repeat (first | apply Kd.R_alloc | apply Kd.R_drewN | apply Kd.R_drew)); exact HO_7.out) hb)
            have n2_ := Aside0.mk (Kd.R_below (by (with_reducible repeat (first | apply Kd.R_alloc | apply Kd.R_drewN | apply Kd.R_drew)); exact HO_705001.out) hb)
            have n3_ := Aside0.mk (Kd.R_below (by (with_reducible repeat (first | apply Kd.R_alloc | apply Kd.R_drewN | apply Kd.R_drew)); exact HO713.out) hb)
            have n4_ := Aside0.mk (blk_below (g := gb690) (o := .cells #[.int .i64 a0_0, .slice A0_1 l0_1.length c0_1] 24 (0, 0)) (by (with_reducible repeat (first | refine blk_drewN ?_ _ | refine blk_drew ?_ | refine blk_alloc ?_ _)); exact BK690.out) hb)
            have n5_ := Aside0.mk (blk_below (g := gb704) (o := .cells #[.int .i64 t700, .slice Ao24 t701.length co24] 29 (0, 0)) (by (with_reducible repeat (first | refine blk_drewN ?_ _ | refine blk_drew ?_ | refine blk_alloc ?_ _)); exact BK704.out) hb)
            have n6_ := Aside0.mk (below_step (by repeat (first | (with_reducible first | exact HB.out | apply below_alloc | apply pw_below_drewN | apply below_drew1 | refine below_set ?_ GE690.out | refine below_set ?_ GE704.out) | exact HB.out)) hb)
            clear HO_4
            clear HO_7
            clear HO_705001
            clear HO713
            clear BK690
            clear BK704
            clear HB
            have HO_4 := n0_
            have HO_7 := n1_
            have HO_705001 := n2_
            have HO713 := n3_
            have BK690 := n4_
            have BK704 := n5_
            have HB := n6_
            clear n0_ n1_ n2_ n3_ n4_ n5_ n6_
            (try clear hb)
            (try clear hb2)
            (try clear hk)
            (try clear hi)
            refine hK.out _ _ ⟨(blk_cell BK704.out 0).trans rfl, (blk_cell BK704.out 1).trans rfl, (blk_cell BK690.out 0).trans rfl, (blk_cell BK690.out 1).trans rfl⟩ (fun hHeld => ?_)
            clear hK K
            refine norm_ (a' := ?_) ?_ ?_
            rotate_left
            · show Act.put _ (some 44) _ = _
              simp only [Act.put, List.setIfInBounds_toArray, List.set_cons_zero, List.set_cons_succ, i64_w, i32_w]
              rfl
            refine pure_ (i := 4) (N := some 45) (v := ?_) (a' := ?_) #[true, true, true, true, true] rfl rfl (by kernel_rfl) (fun _ _ _ h => h) (Or.inl ⟨by rfl, ?_⟩) ?_ ?_
            rotate_left
            · intro w'
              go_simp
              with_reducible rfl
            rotate_left
            · simp only [Act.put, List.setIfInBounds_toArray, List.set_cons_zero, List.set_cons_succ, i64_w, i32_w]
              rfl
            refine done_ (by kernel_rfl) ?_
            have hnb42 := NB704_690.out
            have hnc42 := NB690_704.out
            have hcz43_0 : w41.cell? ⟨gb704, 0, none⟩ = some (.int .i64 t700) := (blk_cell BK704.out 0).trans rfl
            have hcz43_1 : w41.cell? ⟨gb704, 1, none⟩ = some (.slice Ao24 t701.length co24) := (blk_cell BK704.out 1).trans rfl
            have hfz43_0 := blk_frozen BK704.out 0
            have hfz43_1 := blk_frozen BK704.out 1
            go_upto_region 14 with (first | ((with_reducible refine gate_callee (f := 23) rfl ?_); refine goesL_ (some 48) rfl rfl Try.func23 (by kernel_rfl) rfl #[.agg #[.int .i64 t700, .slice Ao24 t701.length co24], .int .i64 1] rfl (by (try simp only [List.map_toArray, List.map_cons, List.map_nil]); first | done | rfl | (simp only [List.length_drop, List.length_take]; rfl)) ?_; (with_reducible refine (laws_markPuzzle.calls kj10 t700 (fun k_ => some k_ = (.slice Ao24 t701.length co24 : Value).ownBlock) (.slice Ao24 t701.length co24) t701 1 t715 t716 w _ ?side1 ?side2 A36.out).mono ?_); (case side1 => repeat (first | (with_reducible first | exact HB.out | apply below_alloc | apply pw_below_drewN | apply below_drew1 | refine below_set ?_ GE690.out | refine below_set ?_ GE704.out) | exact HB.out)); (case side2 => exact Kd.R_tight rfl HO_705001.out); rintro e w44 ⟨rfl, hy0, hb, hkp⟩; refine ⟨_, rfl, ?_⟩; have n0_ := Aside0.mk (Kd.R_mono (ok' := fun k_ => some k_ ≠ (v706 : Value).ownBlock) (Kd.R_keptB ((Kd.R_apart' HO_4.out (Kd.R_typed HO_705001.out) (by decide))) hkp (fun k_ hk_ hs_ => (hk_.2) hs_)) (fun k_ hk_ => hk_.1.1)); have n1_ := Aside0.mk (Kd.R_mono (ok' := fun k_ => some k_ ≠ (v697 : Value).ownBlock) (Kd.R_keptB ((Kd.R_apart' HO_7.out (Kd.R_typed HO_705001.out) (by decide))) hkp (fun k_ hk_ hs_ => (hk_.2) hs_)) (fun k_ hk_ => hk_.1.1)); have n2_ := Aside0.mk (Kd.R_reok rfl hy0 (fun k_ e_ => HO_705001.out.1 k_ e_)); have n3_ := Aside0.mk (blk_kept (by (with_reducible repeat (first | refine blk_drewN ?_ _ | refine blk_drew ?_ | refine blk_alloc ?_ _)); exact BK690.out) hkp (fun hs_ => (fun e_ => (Kd.R_ne HO_705001.out BK690.out (by decide)) e_) hs_)); have n4_ := Aside0.mk (blk_kept (by (with_reducible repeat (first | refine blk_drewN ?_ _ | refine blk_drew ?_ | refine blk_alloc ?_ _)); exact BK704.out) hkp (fun hs_ => (fun e_ => (Kd.R_ne HO_705001.out BK704.out (by decide)) e_) hs_)); have n5_ := Aside0.mk (Kd.R_mono (ok' := fun k_ => some k_ ≠ (.slice Ao24 t701.length co24 : Value).ownBlock) (Kd.R_keptB (HO713.out) hkp (fun k_ hk_ hs_ => (hk_.2) hs_)) (fun k_ hk_ => hk_.1.2)); have n6_ := Aside0.mk (hb); clear HO_4; clear HO_7; clear HO_705001; clear BK690; clear BK704; clear HO713; clear HB; have HO_4 := n0_; have HO_7 := n1_; have HO_705001 := n2_; have BK690 := n3_; have BK704 := n4_; have HO713 := n5_; have HB := n6_; clear n0_ n1_ n2_ n3_ n4_ n5_ n6_; (try clear hb); (try clear hkp); (try clear hy0)))
            (try simp only [Act.put, List.setIfInBounds_toArray, List.set_cons_zero, List.set_cons_succ])
            go_cut [61] (fun v61 wc => ∃ (kq : Nat) (x61_36 : Bool), v61 = .bool x61_36 ∧ Aside0 (laws_FnExactLeftByClues.j1 kq t696 t699 t705 x61_36 a0_0 l0_1 = some r) ∧ Aside0 (kq ≤ kj10) ∧ Aside0 (Kd.R (Kd.int .i64) 3 wc w.heap.size (fun k_ => some k_ ≠ (v706 : Value).ownBlock) v697 t696) ∧ Aside0 (Kd.R (Kd.int .i64) 3 wc w.heap.size (fun k_ => some k_ ≠ (v697 : Value).ownBlock) v706 t705) ∧ Aside0 (Kd.R k37 37 wc w.heap.size (fun _ => True) (.slice Ao24 t701.length co24) t716) ∧ Aside0 (wc.heap[gb690]? = some (.cells #[.int .i64 a0_0, (.slice A0_1 l0_1.length c0_1)] 24 (0, 0))) ∧ Aside0 (wc.heap[gb704]? = some (.cells #[.int .i64 t700, (.slice Ao24 t701.length co24)] 29 (0, 0))) ∧ Aside0 (Below w.heap.size w wc))
            case first =>
              have H := HC37.out
              clear HC37
              by_cases c45 : t715 < 0
              · rw [if_pos c45] at H
                have c45b0 : decide (t715 < 0) = true := decide_eq_true c45
                clear c45
                (first | rw [c45b0] | (simp only [i64_w, i32_w]; rw [c45b0]) | skip)
                have H' := Aside0.mk H
                clear H
                go_wp2
                go_meet
                case rel => exact ⟨_, (true), (by first | rfl | (simp; done) | (simp [*]; done)), H', ⟨by have := HJ10.out; first | omega | exact Nat.le_refl _⟩, ⟨by (with_reducible repeat (first | apply Kd.R_alloc | apply Kd.R_drewN | apply Kd.R_drew)); exact HO_4.out⟩, ⟨by (with_reducible repeat (first | apply Kd.R_alloc | apply Kd.R_drewN | apply Kd.R_drew)); exact HO_7.out⟩, ⟨by (with_reducible repeat (first | apply Kd.R_alloc | apply Kd.R_drewN | apply Kd.R_drew)); exact Kd.R_mono HO_705001.out (fun _ hk => trivial)⟩, ⟨by (with_reducible repeat (first | refine blk_drewN ?_ _ | refine blk_drew ?_ | refine blk_alloc ?_ _)); exact BK690.out⟩, ⟨by (with_reducible repeat (first | refine blk_drewN ?_ _ | refine blk_drew ?_ | refine blk_alloc ?_ _)); exact BK704.out⟩, ⟨by repeat (first | (with_reducible first | exact HB.out | apply below_alloc | apply pw_below_drewN | apply below_drew1 | refine below_set ?_ GE690.out | refine below_set ?_ GE704.out) | exact HB.out)⟩⟩
              · rw [if_neg c45] at H
                have c45b0 : decide (t715 < 0) = false := decide_eq_false c45
                clear c45
                (first | rw [c45b0] | (simp only [i64_w, i32_w]; rw [c45b0]) | skip)
                replace H := Option.bind_eq_some_iff.mp H
                obtain ⟨t717, A460, H⟩ := H
                replace H : (if t717 = true then (laws_FnExactLeftByClues.j1 kj10 t696 t699 t705 (t708 != t699) a0_0 l0_1) else (laws_FnExactLeftByClues.j1 kj10 t696 t699 t705 true a0_0 l0_1)) = some r := H
                have A46 := Aside0.mk A460
                clear A460
                by_cases c47 : t717 = true
                · subst c47
                  have H1 : (laws_FnExactLeftByClues.j1 kj10 t696 t699 t705 (t708 != t699) a0_0 l0_1) = some r := by rw [if_pos rfl] at H; exact H
                  clear H
                  have H := H1
                  clear H1
                  have H' := Aside0.mk H
                  clear H
                  obtain ⟨Ao48, co48, eo48⟩ := Kd.R_slice HO_7.out
                  subst eo48
                  obtain ⟨Ao49, co49, eo49⟩ := Kd.R_slice HO_4.out
                  subst eo49
                  go_wp2_with (first | (go_at_call 45; (with_reducible refine (laws_eqIntS.calls kj10 _ _ t705 _ _ t696 true _ ?side1 ?side2 ?side3 ?side4 A46.out).mono ?_); (case side1 => repeat (first | exact (Kd.R_reads' HO_7.out).2.2 | (with_reducible refine Kd.C_alloc ?_ _) | (with_reducible refine Kd.C_drewN ?_ _) | (with_reducible refine Kd.C_drew ?_))); (case side2 => exact (Kd.R_reads' HO_7.out).2.1); (case side3 => repeat (first | exact (Kd.R_reads' HO_4.out).2.2 | (with_reducible refine Kd.C_alloc ?_ _) | (with_reducible refine Kd.C_drewN ?_ _) | (with_reducible refine Kd.C_drew ?_))); (case side4 => exact (Kd.R_reads' HO_4.out).2.1); rintro e w' ⟨rfl, ⟨nd, rfl⟩⟩))
                  go_meet
                  case rel => exact ⟨_, ((t708 != t699)), (by first | rfl | (simp; done) | (simp [*]; done)), H', ⟨by have := HJ10.out; first | omega | exact Nat.le_refl _⟩, ⟨by (with_reducible repeat (first | apply Kd.R_alloc | apply Kd.R_drewN | apply Kd.R_drew)); exact HO_4.out⟩, ⟨by (with_reducible repeat (first | apply Kd.R_alloc | apply Kd.R_drewN | apply Kd.R_drew)); exact HO_7.out⟩, ⟨by (with_reducible repeat (first | apply Kd.R_alloc | apply Kd.R_drewN | apply Kd.R_drew)); exact Kd.R_mono HO_705001.out (fun _ hk => trivial)⟩, ⟨by (with_reducible repeat (first | refine blk_drewN ?_ _ | refine blk_drew ?_ | refine blk_alloc ?_ _)); exact BK690.out⟩, ⟨by (with_reducible repeat (first | refine blk_drewN ?_ _ | refine blk_drew ?_ | refine blk_alloc ?_ _)); exact BK704.out⟩, ⟨by repeat (first | (with_reducible first | exact HB.out | apply below_alloc | apply pw_below_drewN | apply below_drew1 | refine below_set ?_ GE690.out | refine below_set ?_ GE704.out) | exact HB.out)⟩⟩
                · replace c47 := Bool.eq_false_iff.mpr c47
                  subst c47
                  have H1 : (laws_FnExactLeftByClues.j1 kj10 t696 t699 t705 true a0_0 l0_1) = some r := by rw [if_neg (show ¬ (false = true) by decide)] at H; exact H
                  clear H
                  have H := H1
                  clear H1
                  have H' := Aside0.mk H
                  clear H
                  obtain ⟨Ao50, co50, eo50⟩ := Kd.R_slice HO_7.out
                  subst eo50
                  obtain ⟨Ao51, co51, eo51⟩ := Kd.R_slice HO_4.out
                  subst eo51
                  go_wp2_with (first | (go_at_call 45; (with_reducible refine (laws_eqIntS.calls kj10 _ _ t705 _ _ t696 false _ ?side1 ?side2 ?side3 ?side4 A46.out).mono ?_); (case side1 => repeat (first | exact (Kd.R_reads' HO_7.out).2.2 | (with_reducible refine Kd.C_alloc ?_ _) | (with_reducible refine Kd.C_drewN ?_ _) | (with_reducible refine Kd.C_drew ?_))); (case side2 => exact (Kd.R_reads' HO_7.out).2.1); (case side3 => repeat (first | exact (Kd.R_reads' HO_4.out).2.2 | (with_reducible refine Kd.C_alloc ?_ _) | (with_reducible refine Kd.C_drewN ?_ _) | (with_reducible refine Kd.C_drew ?_))); (case side4 => exact (Kd.R_reads' HO_4.out).2.1); rintro e w' ⟨rfl, ⟨nd, rfl⟩⟩))
                  go_meet
                  case rel => exact ⟨_, (true), (by first | rfl | (simp; done) | (simp [*]; done)), H', ⟨by have := HJ10.out; first | omega | exact Nat.le_refl _⟩, ⟨by (with_reducible repeat (first | apply Kd.R_alloc | apply Kd.R_drewN | apply Kd.R_drew)); exact HO_4.out⟩, ⟨by (with_reducible repeat (first | apply Kd.R_alloc | apply Kd.R_drewN | apply Kd.R_drew)); exact HO_7.out⟩, ⟨by (with_reducible repeat (first | apply Kd.R_alloc | apply Kd.R_drewN | apply Kd.R_drew)); exact Kd.R_mono HO_705001.out (fun _ hk => trivial)⟩, ⟨by (with_reducible repeat (first | refine blk_drewN ?_ _ | refine blk_drew ?_ | refine blk_alloc ?_ _)); exact BK690.out⟩, ⟨by (with_reducible repeat (first | refine blk_drewN ?_ _ | refine blk_drew ?_ | refine blk_alloc ?_ _)); exact BK704.out⟩, ⟨by repeat (first | (with_reducible first | exact HB.out | apply below_alloc | apply pw_below_drewN | apply below_drew1 | refine below_set ?_ GE690.out | refine below_set ?_ GE704.out) | exact HB.out)⟩⟩
            case rest =>
              clear HC37
              try clear c1
              try clear c2
              try clear p2
              try clear c3
              try clear c3b0
              try clear c4
              try clear c13
              try clear c15
              try clear c17
              try clear c19
              try clear c22
              try clear c23
              try clear c27
              try clear c32
              try clear c35
              try clear c42
              try clear c43
              try clear c44
              try clear c45
              try clear c45b0
              try clear c47
              try clear hcz13_0
              try clear hcz13_1
              try clear hcz15_0
              try clear hcz15_1
              try clear hcz19_0
              try clear hcz19_1
              try clear hcz23_0
              try clear hcz23_1
              try clear hcz43_0
              try clear hcz43_1
              try clear hcz5_0
              try clear hcz5_1
              try clear hfz13_0
              try clear hfz13_1
              try clear hfz15_0
              try clear hfz15_1
              try clear hfz19_0
              try clear hfz19_1
              try clear hfz23_0
              try clear hfz23_1
              try clear hfz43_0
              try clear hfz43_1
              try clear hfz5_0
              try clear hfz5_1
              try clear p2
              obtain ⟨kq, x61_36, rfl, HA, HJ36, HO_4, HO_7, HO_705001, BK690, BK704, HB⟩ := hcut
              have hl705001_36 := (Kd.R_reads' HO_705001.out).1
              rw [hl705001_36] at HO_705001
              (try simp only [hl705001_36])
              (try simp only [hl705001_36] at BK690)
              (try simp only [hl705001_36] at BK704)
              (try simp only [hl705001_36] at HO_4)
              (try simp only [hl705001_36] at HO_7)
              cases kq with
              | zero => exact absurd HA.out (by simp [laws_FnExactLeftByClues.j1])
              | succ kj36 =>
                have H := HA.out
                clear HA
                simp only [laws_FnExactLeftByClues.j1] at H
                by_cases c52 : x61_36 = true
                · subst c52
                  have H1 : (some false) = some r := by rw [if_pos rfl] at H; exact H
                  clear H
                  have H := H1
                  clear H1
                  obtain rfl := Option.some.inj H
                  go_wp2
                  go_ret
                  exact ⟨by first | rfl | (simp [errW_none, errW_some] <;> rfl) | (simp [*, errW_none, errW_some] <;> rfl), by repeat (first | (with_reducible first | exact HB.out | apply below_alloc | apply pw_below_drewN | apply below_drew1 | refine below_set ?_ GE690.out | refine below_set ?_ GE704.out) | exact HB.out)⟩
                · replace c52 := Bool.eq_false_iff.mpr c52
                  subst c52
                  have H1 : ((laws_markIntS.f kj36 t705 1).bind fun bt718 => ((laws_heldIntS.f kj36 bt718.2 1).bind fun t720 => (if t720 < 0 then (some false) else (if t720 = bt718.1 then ((laws_toPuzzle.f kj36 a0_0 l0_1).bind fun bt721 => ((impl_LeftByClues.f kj36 bt721.1 bt721.2).bind fun bt725 => ((laws_eqIntS.f kj36 bt725.1 t696).bind fun t729 => (if t729 = true then (laws_FnExactLeftByClues.j2 kj36 bt718.2 bt718.1 (bt725.2 != t699)) else (laws_FnExactLeftByClues.j2 kj36 bt718.2 bt718.1 true))))) else (some false))))) = some r := by rw [if_neg (show ¬ (false = true) by decide)] at H; exact H
                  clear H
                  have H := H1
                  clear H1
                  replace H := Option.bind_eq_some_iff.mp H
                  obtain ⟨⟨t718, t719⟩, A530, H⟩ := H
                  replace H : ((laws_heldIntS.f kj36 t719 1).bind fun t720 => (if t720 < 0 then (some false) else (if t720 = t718 then ((laws_toPuzzle.f kj36 a0_0 l0_1).bind fun bt721 => ((impl_LeftByClues.f kj36 bt721.1 bt721.2).bind fun bt725 => ((laws_eqIntS.f kj36 bt725.1 t696).bind fun t729 => (if t729 = true then (laws_FnExactLeftByClues.j2 kj36 t719 t718 (bt725.2 != t699)) else (laws_FnExactLeftByClues.j2 kj36 t719 t718 true))))) else (some false)))) = some r := H
                  have A53 := Aside0.mk A530
                  clear A530
                  replace H := Option.bind_eq_some_iff.mp H
                  obtain ⟨t720, A540, H⟩ := H
                  replace H : (if t720 < 0 then (some false) else (if t720 = t718 then ((laws_toPuzzle.f kj36 a0_0 l0_1).bind fun bt721 => ((impl_LeftByClues.f kj36 bt721.1 bt721.2).bind fun bt725 => ((laws_eqIntS.f kj36 bt725.1 t696).bind fun t729 => (if t729 = true then (laws_FnExactLeftByClues.j2 kj36 t719 t718 (bt725.2 != t699)) else (laws_FnExactLeftByClues.j2 kj36 t719 t718 true))))) else (some false))) = some r := H
                  have A54 := Aside0.mk A540
                  clear A540
                  by_cases c55 : t720 < 0
                  · rw [if_pos c55] at H
                    have c55b0 : decide (t720 < 0) = true := decide_eq_true c55
                    clear c55
                    obtain rfl := Option.some.inj H
                    obtain ⟨Ao56, co56, eo56⟩ := Kd.R_slice HO_7.out
                    subst eo56
                    go_wp2_with (first | ((with_reducible refine gate_callee (f := 46) rfl ?_); refine goesL_ (some 64) rfl rfl Try.func46 (by kernel_rfl) rfl #[.slice Ao56 t705.length co56, .int .i64 1] rfl (by (try simp only [List.map_toArray, List.map_cons, List.map_nil]); first | done | rfl | (simp only [List.length_drop, List.length_take]; rfl)) ?_; (with_reducible refine (laws_markIntS.calls kj36 (fun k_ => some k_ = (.slice Ao56 t705.length co56 : Value).ownBlock) (.slice Ao56 t705.length co56) t705 1 t718 t719 w _ ?side1 ?side2 A53.out).mono ?_); (case side1 => repeat (first | (with_reducible first | exact HB.out | apply below_alloc | apply pw_below_drewN | apply below_drew1 | refine below_set ?_ GE690.out | refine below_set ?_ GE704.out) | exact HB.out)); (case side2 => exact Kd.R_tight rfl HO_7.out); rintro e w57 ⟨rfl, hy0, hb, hkp⟩; refine ⟨_, rfl, ?_⟩; have n0_ := Aside0.mk (Kd.R_mono (ok' := fun k_ => some k_ ≠ (.slice Ao56 t705.length co56 : Value).ownBlock) (Kd.R_keptB (HO_4.out) hkp (fun k_ hk_ hs_ => (hk_) hs_)) (fun k_ hk_ => hk_.1)); have n1_ := Aside0.mk (Kd.R_reok rfl hy0 (fun k_ e_ => HO_7.out.1 k_ e_)); have n2_ := Aside0.mk (Kd.R_mono (ok' := fun k_ => True) (Kd.R_keptB ((Kd.R_apart' HO_705001.out (Kd.R_typed HO_7.out) (by decide))) hkp (fun k_ hk_ hs_ => (hk_.2) hs_)) (fun k_ hk_ => trivial)); have n3_ := Aside0.mk (blk_kept (by (with_reducible repeat (first | refine blk_drewN ?_ _ | refine blk_drew ?_ | refine blk_alloc ?_ _)); exact BK690.out) hkp (fun hs_ => (fun e_ => (Kd.R_ne HO_7.out BK690.out (by decide)) e_) hs_)); have n4_ := Aside0.mk (blk_kept (by (with_reducible repeat (first | refine blk_drewN ?_ _ | refine blk_drew ?_ | refine blk_alloc ?_ _)); exact BK704.out) hkp (fun hs_ => (fun e_ => (Kd.R_ne HO_7.out BK704.out (by decide)) e_) hs_)); have n5_ := Aside0.mk (hb); clear HO_4; clear HO_7; clear HO_705001; clear BK690; clear BK704; clear HB; have HO_4 := n0_; have HO_7 := n1_; have HO_705001 := n2_; have BK690 := n3_; have BK704 := n4_; have HB := n5_; clear n0_ n1_ n2_ n3_ n4_ n5_; (try clear hb); (try clear hkp); (try clear hy0)) | ((with_reducible refine gate_callee (f := 47) rfl ?_); refine goesL_ (some 67) rfl rfl Try.func47 (by kernel_rfl) rfl #[.slice Ao56 t719.length co56, .int .i64 1] rfl (by (try simp only [List.map_toArray, List.map_cons, List.map_nil]); first | done | (rw [show t719.length = t705.length from (Kd.R_reads' HO_7.out).1.symm] <;> rfl) | rfl | (simp only [List.length_drop, List.length_take]; rfl)) ?_; (with_reducible refine (laws_heldIntS.calls kj36 _ _ t719 1 t720 _ ?side1 ?side2 A54.out).mono ?_); (case side1 => repeat (first | exact (Kd.R_reads' HO_7.out).2.2 | (with_reducible refine Kd.C_alloc ?_ _) | (with_reducible refine Kd.C_drewN ?_ _) | (with_reducible refine Kd.C_drew ?_))); (case side2 => rw [show t719.length = t705.length from (Kd.R_reads' HO_7.out).1.symm]; exact (Kd.R_reads' HO_7.out).2.1); rintro e w' ⟨rfl, ⟨nd, rfl⟩⟩; refine ⟨_, rfl, ?_⟩))
                    go_ret
                    exact ⟨by first | rfl | (simp [errW_none, errW_some] <;> rfl) | (simp [*, errW_none, errW_some] <;> rfl), by repeat (first | (with_reducible first | exact HB.out | apply below_alloc | apply pw_below_drewN | apply below_drew1 | refine below_set ?_ GE690.out | refine below_set ?_ GE704.out) | exact HB.out)⟩
                  · rw [if_neg c55] at H
                    have c55b0 : decide (t720 < 0) = false := decide_eq_false c55
                    clear c55
                    by_cases c58 : t720 = t718
                    · rw [if_pos c58] at H
                      have c58b0 : (t720 == t718) = true := beq_iff_eq.mpr c58
                      have c58b1 : (t720 != t718) = false := bne_eq_false_iff_eq.mpr c58
                      clear c58
                      replace H := Option.bind_eq_some_iff.mp H
                      obtain ⟨⟨t721, t722⟩, A590, H⟩ := H
                      replace H : ((impl_LeftByClues.f kj36 t721 t722).bind fun bt725 => ((laws_eqIntS.f kj36 bt725.1 t696).bind fun t729 => (if t729 = true then (laws_FnExactLeftByClues.j2 kj36 t719 t718 (bt725.2 != t699)) else (laws_FnExactLeftByClues.j2 kj36 t719 t718 true)))) = some r := H
                      have A59 := Aside0.mk A590
                      clear A590
                      replace H := Option.bind_eq_some_iff.mp H
                      obtain ⟨⟨t725, t728⟩, A600, H⟩ := H
                      replace H : ((laws_eqIntS.f kj36 t725 t696).bind fun t729 => (if t729 = true then (laws_FnExactLeftByClues.j2 kj36 t719 t718 (t728 != t699)) else (laws_FnExactLeftByClues.j2 kj36 t719 t718 true))) = some r := H
                      have A60 := Aside0.mk A600
                      clear A600
                      have HC61 := Aside0.mk H
                      clear H
                      obtain ⟨Ao62, co62, eo62⟩ := Kd.R_slice HO_7.out
                      subst eo62
                      go_upto_region 25 with (first | ((with_reducible refine gate_callee (f := 46) rfl ?_); refine goesL_ (some 64) rfl rfl Try.func46 (by kernel_rfl) rfl #[.slice Ao62 t705.length co62, .int .i64 1] rfl (by (try simp only [List.map_toArray, List.map_cons, List.map_nil]); first | done | rfl | (simp only [List.length_drop, List.length_take]; rfl)) ?_; (with_reducible refine (laws_markIntS.calls kj36 (fun k_ => some k_ = (.slice Ao62 t705.length co62 : Value).ownBlock) (.slice Ao62 t705.length co62) t705 1 t718 t719 w _ ?side1 ?side2 A53.out).mono ?_); (case side1 => repeat (first | (with_reducible first | exact HB.out | apply below_alloc | apply pw_below_drewN | apply below_drew1 | refine below_set ?_ GE690.out | refine below_set ?_ GE704.out) | exact HB.out)); (case side2 => exact Kd.R_tight rfl HO_7.out); rintro e w63 ⟨rfl, hy0, hb, hkp⟩; refine ⟨_, rfl, ?_⟩; have n0_ := Aside0.mk (Kd.R_mono (ok' := fun k_ => some k_ ≠ (.slice Ao62 t705.length co62 : Value).ownBlock) (Kd.R_keptB (HO_4.out) hkp (fun k_ hk_ hs_ => (hk_) hs_)) (fun k_ hk_ => hk_.1)); have n1_ := Aside0.mk (Kd.R_reok rfl hy0 (fun k_ e_ => HO_7.out.1 k_ e_)); have n2_ := Aside0.mk (Kd.R_mono (ok' := fun k_ => True) (Kd.R_keptB ((Kd.R_apart' HO_705001.out (Kd.R_typed HO_7.out) (by decide))) hkp (fun k_ hk_ hs_ => (hk_.2) hs_)) (fun k_ hk_ => trivial)); have n3_ := Aside0.mk (blk_kept (by (with_reducible repeat (first | refine blk_drewN ?_ _ | refine blk_drew ?_ | refine blk_alloc ?_ _)); exact BK690.out) hkp (fun hs_ => (fun e_ => (Kd.R_ne HO_7.out BK690.out (by decide)) e_) hs_)); have n4_ := Aside0.mk (blk_kept (by (with_reducible repeat (first | refine blk_drewN ?_ _ | refine blk_drew ?_ | refine blk_alloc ?_ _)); exact BK704.out) hkp (fun hs_ => (fun e_ => (Kd.R_ne HO_7.out BK704.out (by decide)) e_) hs_)); have n5_ := Aside0.mk (hb); clear HO_4; clear HO_7; clear HO_705001; clear BK690; clear BK704; clear HB; have HO_4 := n0_; have HO_7 := n1_; have HO_705001 := n2_; have BK690 := n3_; have BK704 := n4_; have HB := n5_; clear n0_ n1_ n2_ n3_ n4_ n5_; (try clear hb); (try clear hkp); (try clear hy0)) | ((with_reducible refine gate_callee (f := 47) rfl ?_); refine goesL_ (some 67) rfl rfl Try.func47 (by kernel_rfl) rfl #[.slice Ao62 t719.length co62, .int .i64 1] rfl (by (try simp only [List.map_toArray, List.map_cons, List.map_nil]); first | done | (rw [show t719.length = t705.length from (Kd.R_reads' HO_7.out).1.symm] <;> rfl) | rfl | (simp only [List.length_drop, List.length_take]; rfl)) ?_; (with_reducible refine (laws_heldIntS.calls kj36 _ _ t719 1 t720 _ ?side1 ?side2 A54.out).mono ?_); (case side1 => repeat (first | exact (Kd.R_reads' HO_7.out).2.2 | (with_reducible refine Kd.C_alloc ?_ _) | (with_reducible refine Kd.C_drewN ?_ _) | (with_reducible refine Kd.C_drew ?_))); (case side2 => rw [show t719.length = t705.length from (Kd.R_reads' HO_7.out).1.symm]; exact (Kd.R_reads' HO_7.out).2.1); rintro e w' ⟨rfl, ⟨nd, rfl⟩⟩; refine ⟨_, rfl, ?_⟩; have hnb64 := NB690_704.out; have hnc64 := NB704_690.out; have hcz65_0 : w63.cell? ⟨gb690, 0, none⟩ = some (.int .i64 a0_0) := (blk_cell BK690.out 0).trans rfl; have hcz65_1 : w63.cell? ⟨gb690, 1, none⟩ = some (.slice A0_1 l0_1.length c0_1) := (blk_cell BK690.out 1).trans rfl; have hfz65_0 := blk_frozen BK690.out 0; have hfz65_1 := blk_frozen BK690.out 1) | ((with_reducible refine gate_callee (f := 17) rfl ?_); refine goesL_ (some 75) rfl rfl Try.func17 (by kernel_rfl) rfl #[.agg #[.int .i64 a0_0, .slice A0_1 l0_1.length c0_1]] rfl (by (try simp only [List.map_toArray, List.map_cons, List.map_nil]); first | done | rfl | (simp only [List.length_drop, List.length_take]; rfl)) ?_; (with_reducible refine (laws_toPuzzle.calls kj36 a0_0 _ _ l0_1 t721 t722 _ ?side1 ?side2 A59.out).mono ?_); (case side1 => repeat (first | exact (Kd.C_below HR0_1.out (by repeat (first | (with_reducible first | exact HB.out | apply below_alloc | apply pw_below_drewN | apply below_drew1 | refine below_set ?_ GE690.out | refine below_set ?_ GE704.out) | exact HB.out))) | (with_reducible refine Kd.C_alloc ?_ _) | (with_reducible refine Kd.C_drewN ?_ _) | (with_reducible refine Kd.C_drew ?_))); (case side2 => exact HC0_1.out); rintro e w66 ⟨v723, rfl, ho0, hb⟩; refine ⟨_, rfl, ?_⟩; have n0_ := Aside0.mk (Kd.R_below (by (with_reducible repeat (first | apply Kd.R_alloc | apply Kd.R_drewN | apply Kd.R_drew)); exact HO_4.out) hb); have n1_ := Aside0.mk (Kd.R_below (by (with_reducible repeat (first | apply Kd.R_alloc | apply Kd.R_drewN | apply Kd.R_drew)); exact HO_7.out) hb); have n2_ := Aside0.mk (Kd.R_elder' (by (with_reducible repeat (first | apply Kd.R_alloc | apply Kd.R_drewN | apply Kd.R_drew)); exact HO_705001.out) (Kd.R_base ho0) hb); have n3_ := Aside0.mk (Kd.R_lower (Kd.R_new' ho0 (Kd.R_lt (by (with_reducible repeat (first | apply Kd.R_alloc | apply Kd.R_drewN | apply Kd.R_drew)); exact HO_705001.out))) (below_size (by repeat (first | (with_reducible first | exact HB.out | apply below_alloc | apply pw_below_drewN | apply below_drew1 | refine below_set ?_ GE690.out | refine below_set ?_ GE704.out) | exact HB.out)))); have n4_ := Aside0.mk (blk_below (g := gb690) (o := .cells #[.int .i64 a0_0, .slice A0_1 l0_1.length c0_1] 24 (0, 0)) (by (with_reducible repeat (first | refine blk_drewN ?_ _ | refine blk_drew ?_ | refine blk_alloc ?_ _)); exact BK690.out) hb); have n5_ := Aside0.mk (blk_below (g := gb704) (o := .cells #[.int .i64 t700, .slice Ao24 t716.length co24] 29 (0, 0)) (by (with_reducible repeat (first | refine blk_drewN ?_ _ | refine blk_drew ?_ | refine blk_alloc ?_ _)); exact BK704.out) hb); have n6_ := Aside0.mk (below_step (by repeat (first | (with_reducible first | exact HB.out | apply below_alloc | apply pw_below_drewN | apply below_drew1 | refine below_set ?_ GE690.out | refine below_set ?_ GE704.out) | exact HB.out)) hb); clear HO_4; clear HO_7; clear HO_705001; clear BK690; clear BK704; clear HB; have HO_4 := n0_; have HO_7 := n1_; have HO_705001 := n2_; have HO724 := n3_; have BK690 := n4_; have BK704 := n5_; have HB := n6_; clear n0_ n1_ n2_ n3_ n4_ n5_ n6_; (try clear hb); (try clear hb2); (try clear hk); (try clear hi); (try clear ho0); obtain ⟨Ao67, co67, eo67⟩ := Kd.R_slice HO724.out; subst eo67) | ((with_reducible refine gate_callee (f := 44) rfl ?_); refine goesL_ (some 76) rfl rfl Try.func44 (by kernel_rfl) rfl #[.agg #[.int .i64 t721, .slice Ao67 t722.length co67]] rfl (by (try simp only [List.map_toArray, List.map_cons, List.map_nil]); first | done | rfl | (simp only [List.length_drop, List.length_take]; rfl)) ?_; (with_reducible refine (impl_LeftByClues.calls kj36 t721 _ _ t722 t725 t728 _ ?side1 ?side2 A60.out).mono ?_); (case side1 => repeat (first | exact (Kd.R_reads' HO724.out).2.2 | (with_reducible refine Kd.C_alloc ?_ _) | (with_reducible refine Kd.C_drewN ?_ _) | (with_reducible refine Kd.C_drew ?_))); (case side2 => exact (Kd.R_reads' HO724.out).2.1); rintro e w68 ⟨v726, rfl, ho0, hb⟩; refine ⟨_, rfl, ?_⟩; have n0_ := Aside0.mk (Kd.R_elder' (by (with_reducible repeat (first | apply Kd.R_alloc | apply Kd.R_drewN | apply Kd.R_drew)); exact HO_4.out) (Kd.R_base ho0) hb); have n1_ := Aside0.mk (Kd.R_elder' (by (with_reducible repeat (first | apply Kd.R_alloc | apply Kd.R_drewN | apply Kd.R_drew)); exact HO_7.out) (Kd.R_base ho0) hb); have n2_ := Aside0.mk (Kd.R_below (by (with_reducible repeat (first | apply Kd.R_alloc | apply Kd.R_drewN | apply Kd.R_drew)); exact HO_705001.out) hb); have n3_ := Aside0.mk (Kd.R_below (by (with_reducible repeat (first | apply Kd.R_alloc | apply Kd.R_drewN | apply Kd.R_drew)); exact HO724.out) hb); have n4_ := Aside0.mk (Kd.R_lower (Kd.R_new' (Kd.R_new' ho0 (Kd.R_lt (by (with_reducible repeat (first | apply Kd.R_alloc | apply Kd.R_drewN | apply Kd.R_drew)); exact HO_4.out))) (Kd.R_lt (by (with_reducible repeat (first | apply Kd.R_alloc | apply Kd.R_drewN | apply Kd.R_drew)); exact HO_7.out))) (below_size (by repeat (first | (with_reducible first | exact HB.out | apply below_alloc | apply pw_below_drewN | apply below_drew1 | refine below_set ?_ GE690.out | refine below_set ?_ GE704.out) | exact HB.out)))); have n5_ := Aside0.mk (blk_below (g := gb690) (o := .cells #[.int .i64 a0_0, .slice A0_1 l0_1.length c0_1] 24 (0, 0)) (by (with_reducible repeat (first | refine blk_drewN ?_ _ | refine blk_drew ?_ | refine blk_alloc ?_ _)); exact BK690.out) hb); have n6_ := Aside0.mk (blk_below (g := gb704) (o := .cells #[.int .i64 t700, .slice Ao24 t716.length co24] 29 (0, 0)) (by (with_reducible repeat (first | refine blk_drewN ?_ _ | refine blk_drew ?_ | refine blk_alloc ?_ _)); exact BK704.out) hb); have n7_ := Aside0.mk (below_step (by repeat (first | (with_reducible first | exact HB.out | apply below_alloc | apply pw_below_drewN | apply below_drew1 | refine below_set ?_ GE690.out | refine below_set ?_ GE704.out) | exact HB.out)) hb); clear HO_4; clear HO_7; clear HO_705001; clear HO724; clear BK690; clear BK704; clear HB; have HO_4 := n0_; have HO_7 := n1_; have HO_705001 := n2_; have HO724 := n3_; have HO727 := n4_; have BK690 := n5_; have BK704 := n6_; have HB := n7_; clear n0_ n1_ n2_ n3_ n4_ n5_ n6_ n7_; (try clear hb); (try clear hb2); (try clear hk); (try clear hi); (try clear ho0)))
                      (try simp only [Act.put, List.setIfInBounds_toArray, List.set_cons_zero, List.set_cons_succ])
                      go_cut [87] (fun v87 wc => ∃ (kq : Nat) (x87_60 : Bool), v87 = .bool x87_60 ∧ Aside0 (laws_FnExactLeftByClues.j2 kq t719 t718 x87_60 = some r) ∧ Aside0 (kq ≤ kj36) ∧ Aside0 (Kd.R (Kd.int .i64) 3 wc w.heap.size (fun _ => True) (.slice Ao62 t705.length co62) t719) ∧ Aside0 (Kd.R k37 37 wc w.heap.size (fun _ => True) (.slice Ao24 t716.length co24) t716) ∧ Aside0 (wc.heap[gb690]? = some (.cells #[.int .i64 a0_0, (.slice A0_1 l0_1.length c0_1)] 24 (0, 0))) ∧ Aside0 (wc.heap[gb704]? = some (.cells #[.int .i64 t700, (.slice Ao24 t716.length co24)] 29 (0, 0))) ∧ Aside0 (Below w.heap.size w wc))
                      case first =>
                        have H := HC61.out
                        clear HC61
                        replace H := Option.bind_eq_some_iff.mp H
                        obtain ⟨t729, A690, H⟩ := H
                        replace H : (if t729 = true then (laws_FnExactLeftByClues.j2 kj36 t719 t718 (t728 != t699)) else (laws_FnExactLeftByClues.j2 kj36 t719 t718 true)) = some r := H
                        have A69 := Aside0.mk A690
                        clear A690
                        by_cases c70 : t729 = true
                        · subst c70
                          have H1 : (laws_FnExactLeftByClues.j2 kj36 t719 t718 (t728 != t699)) = some r := by rw [if_pos rfl] at H; exact H
                          clear H
                          have H := H1
                          clear H1
                          have H' := Aside0.mk H
                          clear H
                          obtain ⟨Ao71, co71, eo71⟩ := Kd.R_slice HO727.out
                          subst eo71
                          obtain ⟨Ao72, co72, eo72⟩ := Kd.R_slice HO_4.out
                          subst eo72
                          go_wp2_with (first | ((with_reducible refine gate_callee (f := 45) rfl ?_); refine goesL_ (some 81) rfl rfl Try.func45 (by kernel_rfl) rfl #[.slice Ao71 t725.length co71, .slice Ao72 t696.length co72] rfl (by (try simp only [List.map_toArray, List.map_cons, List.map_nil]); first | done | rfl | (simp only [List.length_drop, List.length_take]; rfl)) ?_; (with_reducible refine (laws_eqIntS.calls kj36 _ _ t725 _ _ t696 true _ ?side1 ?side2 ?side3 ?side4 A69.out).mono ?_); (case side1 => repeat (first | exact (Kd.R_reads' HO727.out).2.2 | (with_reducible refine Kd.C_alloc ?_ _) | (with_reducible refine Kd.C_drewN ?_ _) | (with_reducible refine Kd.C_drew ?_))); (case side2 => exact (Kd.R_reads' HO727.out).2.1); (case side3 => repeat (first | exact (Kd.R_reads' HO_4.out).2.2 | (with_reducible refine Kd.C_alloc ?_ _) | (with_reducible refine Kd.C_drewN ?_ _) | (with_reducible refine Kd.C_drew ?_))); (case side4 => exact (Kd.R_reads' HO_4.out).2.1); rintro e w' ⟨rfl, ⟨nd, rfl⟩⟩; refine ⟨_, rfl, ?_⟩))
                          go_meet
                          case rel => exact ⟨_, ((t728 != t699)), (by first | rfl | (simp; done) | (simp [*]; done)), H', ⟨by have := HJ10.out; have := HJ36.out; first | omega | exact Nat.le_refl _⟩, ⟨by (try simp only [hl705001_36]); (with_reducible repeat (first | apply Kd.R_alloc | apply Kd.R_drewN | apply Kd.R_drew)); exact Kd.R_mono HO_7.out (fun _ hk => trivial)⟩, ⟨by (try simp only [hl705001_36]); (with_reducible repeat (first | apply Kd.R_alloc | apply Kd.R_drewN | apply Kd.R_drew)); exact Kd.R_mono HO_705001.out (fun _ hk => trivial)⟩, ⟨by (try simp only [hl705001_36]); (with_reducible repeat (first | refine blk_drewN ?_ _ | refine blk_drew ?_ | refine blk_alloc ?_ _)); exact BK690.out⟩, ⟨by (try simp only [hl705001_36]); (with_reducible repeat (first | refine blk_drewN ?_ _ | refine blk_drew ?_ | refine blk_alloc ?_ _)); exact BK704.out⟩, ⟨by repeat (first | (with_reducible first | exact HB.out | apply below_alloc | apply pw_below_drewN | apply below_drew1 | refine below_set ?_ GE690.out | refine below_set ?_ GE704.out) | exact HB.out)⟩⟩
                        · replace c70 := Bool.eq_false_iff.mpr c70
                          subst c70
                          have H1 : (laws_FnExactLeftByClues.j2 kj36 t719 t718 true) = some r := by rw [if_neg (show ¬ (false = true) by decide)] at H; exact H
                          clear H
                          have H := H1
                          clear H1
                          have H' := Aside0.mk H
                          clear H
                          obtain ⟨Ao73, co73, eo73⟩ := Kd.R_slice HO727.out
                          subst eo73
                          obtain ⟨Ao74, co74, eo74⟩ := Kd.R_slice HO_4.out
                          subst eo74
                          go_wp2_with (first | ((with_reducible refine gate_callee (f := 45) rfl ?_); refine goesL_ (some 81) rfl rfl Try.func45 (by kernel_rfl) rfl #[.slice Ao73 t725.length co73, .slice Ao74 t696.length co74] rfl (by (try simp only [List.map_toArray, List.map_cons, List.map_nil]); first | done | rfl | (simp only [List.length_drop, List.length_take]; rfl)) ?_; (with_reducible refine (laws_eqIntS.calls kj36 _ _ t725 _ _ t696 false _ ?side1 ?side2 ?side3 ?side4 A69.out).mono ?_); (case side1 => repeat (first | exact (Kd.R_reads' HO727.out).2.2 | (with_reducible refine Kd.C_alloc ?_ _) | (with_reducible refine Kd.C_drewN ?_ _) | (with_reducible refine Kd.C_drew ?_))); (case side2 => exact (Kd.R_reads' HO727.out).2.1); (case side3 => repeat (first | exact (Kd.R_reads' HO_4.out).2.2 | (with_reducible refine Kd.C_alloc ?_ _) | (with_reducible refine Kd.C_drewN ?_ _) | (with_reducible refine Kd.C_drew ?_))); (case side4 => exact (Kd.R_reads' HO_4.out).2.1); rintro e w' ⟨rfl, ⟨nd, rfl⟩⟩; refine ⟨_, rfl, ?_⟩))
                          go_meet
                          case rel => exact ⟨_, (true), (by first | rfl | (simp; done) | (simp [*]; done)), H', ⟨by have := HJ10.out; have := HJ36.out; first | omega | exact Nat.le_refl _⟩, ⟨by (try simp only [hl705001_36]); (with_reducible repeat (first | apply Kd.R_alloc | apply Kd.R_drewN | apply Kd.R_drew)); exact Kd.R_mono HO_7.out (fun _ hk => trivial)⟩, ⟨by (try simp only [hl705001_36]); (with_reducible repeat (first | apply Kd.R_alloc | apply Kd.R_drewN | apply Kd.R_drew)); exact Kd.R_mono HO_705001.out (fun _ hk => trivial)⟩, ⟨by (try simp only [hl705001_36]); (with_reducible repeat (first | refine blk_drewN ?_ _ | refine blk_drew ?_ | refine blk_alloc ?_ _)); exact BK690.out⟩, ⟨by (try simp only [hl705001_36]); (with_reducible repeat (first | refine blk_drewN ?_ _ | refine blk_drew ?_ | refine blk_alloc ?_ _)); exact BK704.out⟩, ⟨by repeat (first | (with_reducible first | exact HB.out | apply below_alloc | apply pw_below_drewN | apply below_drew1 | refine below_set ?_ GE690.out | refine below_set ?_ GE704.out) | exact HB.out)⟩⟩
                      case rest =>
                        clear HC61
                        try clear c1
                        try clear c2
                        try clear p2
                        try clear c3
                        try clear c3b0
                        try clear c4
                        try clear c5
                        try clear c6
                        try clear c7
                        try clear c13
                        try clear c15
                        try clear c17
                        try clear c19
                        try clear c22
                        try clear c23
                        try clear c27
                        try clear c32
                        try clear c35
                        try clear c42
                        try clear c43
                        try clear c44
                        try clear c45
                        try clear c45b0
                        try clear c46
                        try clear c47
                        try clear c52
                        try clear c55
                        try clear c55b0
                        try clear c58
                        try clear c58b0
                        try clear c58b1
                        try clear c64
                        try clear c70
                        try clear hcz13_0
                        try clear hcz13_1
                        try clear hcz15_0
                        try clear hcz15_1
                        try clear hcz19_0
                        try clear hcz19_1
                        try clear hcz23_0
                        try clear hcz23_1
                        try clear hcz43_0
                        try clear hcz43_1
                        try clear hcz5_0
                        try clear hcz5_1
                        try clear hcz65_0
                        try clear hcz65_1
                        try clear hfz13_0
                        try clear hfz13_1
                        try clear hfz15_0
                        try clear hfz15_1
                        try clear hfz19_0
                        try clear hfz19_1
                        try clear hfz23_0
                        try clear hfz23_1
                        try clear hfz43_0
                        try clear hfz43_1
                        try clear hfz5_0
                        try clear hfz5_1
                        try clear hfz65_0
                        try clear hfz65_1
                        try clear p2
                        obtain ⟨kq, x87_60, rfl, HA, HJ60, HO_7, HO_705001, BK690, BK704, HB⟩ := hcut
                        have hl7_60 := (Kd.R_reads' HO_7.out).1
                        rw [hl7_60] at HO_7
                        (try simp only [hl7_60])
                        (try simp only [hl7_60] at BK690)
                        (try simp only [hl7_60] at BK704)
                        (try simp only [hl7_60] at HO_705001)
                        cases kq with
                        | zero => exact absurd HA.out (by simp [laws_FnExactLeftByClues.j2])
                        | succ kj60 =>
                          have H := HA.out
                          clear HA
                          simp only [laws_FnExactLeftByClues.j2] at H
                          by_cases c75 : x87_60 = true
                          · subst c75
                            have H1 : (some false) = some r := by rw [if_pos rfl] at H; exact H
                            clear H
                            have H := H1
                            clear H1
                            obtain rfl := Option.some.inj H
                            go_wp2
                            go_ret
                            exact ⟨by first | rfl | (simp [errW_none, errW_some] <;> rfl) | (simp [*, errW_none, errW_some] <;> rfl), by repeat (first | (with_reducible first | exact HB.out | apply below_alloc | apply pw_below_drewN | apply below_drew1 | refine below_set ?_ GE690.out | refine below_set ?_ GE704.out) | exact HB.out)⟩
                          · replace c75 := Bool.eq_false_iff.mpr c75
                            subst c75
                            have H1 : ((laws_heldIntS.f kj60 t719 1).bind fun t730 => (if t730 < 0 then (some false) else (if t730 = t718 then (some true) else (some false)))) = some r := by rw [if_neg (show ¬ (false = true) by decide)] at H; exact H
                            clear H
                            have H := H1
                            clear H1
                            replace H := Option.bind_eq_some_iff.mp H
                            obtain ⟨t730, A760, H⟩ := H
                            replace H : (if t730 < 0 then (some false) else (if t730 = t718 then (some true) else (some false))) = some r := H
                            have A76 := Aside0.mk A760
                            clear A760
                            by_cases c77 : t730 < 0
                            · rw [if_pos c77] at H
                              have c77b0 : decide (t730 < 0) = true := decide_eq_true c77
                              clear c77
                              obtain rfl := Option.some.inj H
                              go_wp2_with (first | ((with_reducible refine gate_callee (f := 47) rfl ?_); refine goesL_ (some 90) rfl rfl Try.func47 (by kernel_rfl) rfl #[.slice Ao62 t719.length co62, .int .i64 1] rfl (by (try simp only [List.map_toArray, List.map_cons, List.map_nil]); first | done | rfl | (simp only [List.length_drop, List.length_take]; rfl)) ?_; (with_reducible refine (laws_heldIntS.calls kj60 _ _ t719 1 t730 _ ?side1 ?side2 A76.out).mono ?_); (case side1 => repeat (first | exact (Kd.R_reads' HO_7.out).2.2 | (with_reducible refine Kd.C_alloc ?_ _) | (with_reducible refine Kd.C_drewN ?_ _) | (with_reducible refine Kd.C_drew ?_))); (case side2 => exact (Kd.R_reads' HO_7.out).2.1); rintro e w' ⟨rfl, ⟨nd, rfl⟩⟩; refine ⟨_, rfl, ?_⟩))
                              go_ret
                              exact ⟨by first | rfl | (simp [errW_none, errW_some] <;> rfl) | (simp [*, errW_none, errW_some] <;> rfl), by repeat (first | (with_reducible first | exact HB.out | apply below_alloc | apply pw_below_drewN | apply below_drew1 | refine below_set ?_ GE690.out | refine below_set ?_ GE704.out) | exact HB.out)⟩
                            · rw [if_neg c77] at H
                              have c77b0 : decide (t730 < 0) = false := decide_eq_false c77
                              clear c77
                              by_cases c78 : t730 = t718
                              · rw [if_pos c78] at H
                                have c78b0 : (t730 == t718) = true := beq_iff_eq.mpr c78
                                have c78b1 : (t730 != t718) = false := bne_eq_false_iff_eq.mpr c78
                                clear c78
                                obtain rfl := Option.some.inj H
                                go_wp2_with (first | ((with_reducible refine gate_callee (f := 47) rfl ?_); refine goesL_ (some 90) rfl rfl Try.func47 (by kernel_rfl) rfl #[.slice Ao62 t719.length co62, .int .i64 1] rfl (by (try simp only [List.map_toArray, List.map_cons, List.map_nil]); first | done | rfl | (simp only [List.length_drop, List.length_take]; rfl)) ?_; (with_reducible refine (laws_heldIntS.calls kj60 _ _ t719 1 t730 _ ?side1 ?side2 A76.out).mono ?_); (case side1 => repeat (first | exact (Kd.R_reads' HO_7.out).2.2 | (with_reducible refine Kd.C_alloc ?_ _) | (with_reducible refine Kd.C_drewN ?_ _) | (with_reducible refine Kd.C_drew ?_))); (case side2 => exact (Kd.R_reads' HO_7.out).2.1); rintro e w' ⟨rfl, ⟨nd, rfl⟩⟩; refine ⟨_, rfl, ?_⟩))
                                go_ret
                                exact ⟨by first | rfl | (simp [errW_none, errW_some] <;> rfl) | (simp [*, errW_none, errW_some] <;> rfl), by repeat (first | (with_reducible first | exact HB.out | apply below_alloc | apply pw_below_drewN | apply below_drew1 | refine below_set ?_ GE690.out | refine below_set ?_ GE704.out) | exact HB.out)⟩
                              · rw [if_neg c78] at H
                                have c78b0 : (t730 == t718) = false := beq_eq_false_iff_ne.mpr c78
                                have c78b1 : (t730 != t718) = true := bne_iff_ne.mpr c78
                                obtain rfl := Option.some.inj H
                                go_wp2_with (first | ((with_reducible refine gate_callee (f := 47) rfl ?_); refine goesL_ (some 90) rfl rfl Try.func47 (by kernel_rfl) rfl #[.slice Ao62 t719.length co62, .int .i64 1] rfl (by (try simp only [List.map_toArray, List.map_cons, List.map_nil]); first | done | rfl | (simp only [List.length_drop, List.length_take]; rfl)) ?_; (with_reducible refine (laws_heldIntS.calls kj60 _ _ t719 1 t730 _ ?side1 ?side2 A76.out).mono ?_); (case side1 => repeat (first | exact (Kd.R_reads' HO_7.out).2.2 | (with_reducible refine Kd.C_alloc ?_ _) | (with_reducible refine Kd.C_drewN ?_ _) | (with_reducible refine Kd.C_drew ?_))); (case side2 => exact (Kd.R_reads' HO_7.out).2.1); rintro e w' ⟨rfl, ⟨nd, rfl⟩⟩; refine ⟨_, rfl, ?_⟩))
                                go_ret
                                exact ⟨by first | rfl | (simp [errW_none, errW_some] <;> rfl) | (simp [*, errW_none, errW_some] <;> rfl), by repeat (first | (with_reducible first | exact HB.out | apply below_alloc | apply pw_below_drewN | apply below_drew1 | refine below_set ?_ GE690.out | refine below_set ?_ GE704.out) | exact HB.out)⟩
                    · rw [if_neg c58] at H
                      have c58b0 : (t720 == t718) = false := beq_eq_false_iff_ne.mpr c58
                      have c58b1 : (t720 != t718) = true := bne_iff_ne.mpr c58
                      obtain rfl := Option.some.inj H
                      obtain ⟨Ao79, co79, eo79⟩ := Kd.R_slice HO_7.out
                      subst eo79
                      go_wp2_with (first | ((with_reducible refine gate_callee (f := 46) rfl ?_); refine goesL_ (some 64) rfl rfl Try.func46 (by kernel_rfl) rfl #[.slice Ao79 t705.length co79, .int .i64 1] rfl (by (try simp only [List.map_toArray, List.map_cons, List.map_nil]); first | done | rfl | (simp only [List.length_drop, List.length_take]; rfl)) ?_; (with_reducible refine (laws_markIntS.calls kj36 (fun k_ => some k_ = (.slice Ao79 t705.length co79 : Value).ownBlock) (.slice Ao79 t705.length co79) t705 1 t718 t719 w _ ?side1 ?side2 A53.out).mono ?_); (case side1 => repeat (first | (with_reducible first | exact HB.out | apply below_alloc | apply pw_below_drewN | apply below_drew1 | refine below_set ?_ GE690.out | refine below_set ?_ GE704.out) | exact HB.out)); (case side2 => exact Kd.R_tight rfl HO_7.out); rintro e w80 ⟨rfl, hy0, hb, hkp⟩; refine ⟨_, rfl, ?_⟩; have n0_ := Aside0.mk (Kd.R_mono (ok' := fun k_ => some k_ ≠ (.slice Ao79 t705.length co79 : Value).ownBlock) (Kd.R_keptB (HO_4.out) hkp (fun k_ hk_ hs_ => (hk_) hs_)) (fun k_ hk_ => hk_.1)); have n1_ := Aside0.mk (Kd.R_reok rfl hy0 (fun k_ e_ => HO_7.out.1 k_ e_)); have n2_ := Aside0.mk (Kd.R_mono (ok' := fun k_ => True) (Kd.R_keptB ((Kd.R_apart' HO_705001.out (Kd.R_typed HO_7.out) (by decide))) hkp (fun k_ hk_ hs_ => (hk_.2) hs_)) (fun k_ hk_ => trivial)); have n3_ := Aside0.mk (blk_kept (by (with_reducible repeat (first | refine blk_drewN ?_ _ | refine blk_drew ?_ | refine blk_alloc ?_ _)); exact BK690.out) hkp (fun hs_ => (fun e_ => (Kd.R_ne HO_7.out BK690.out (by decide)) e_) hs_)); have n4_ := Aside0.mk (blk_kept (by (with_reducible repeat (first | refine blk_drewN ?_ _ | refine blk_drew ?_ | refine blk_alloc ?_ _)); exact BK704.out) hkp (fun hs_ => (fun e_ => (Kd.R_ne HO_7.out BK704.out (by decide)) e_) hs_)); have n5_ := Aside0.mk (hb); clear HO_4; clear HO_7; clear HO_705001; clear BK690; clear BK704; clear HB; have HO_4 := n0_; have HO_7 := n1_; have HO_705001 := n2_; have BK690 := n3_; have BK704 := n4_; have HB := n5_; clear n0_ n1_ n2_ n3_ n4_ n5_; (try clear hb); (try clear hkp); (try clear hy0)) | ((with_reducible refine gate_callee (f := 47) rfl ?_); refine goesL_ (some 67) rfl rfl Try.func47 (by kernel_rfl) rfl #[.slice Ao79 t719.length co79, .int .i64 1] rfl (by (try simp only [List.map_toArray, List.map_cons, List.map_nil]); first | done | (rw [show t719.length = t705.length from (Kd.R_reads' HO_7.out).1.symm] <;> rfl) | rfl | (simp only [List.length_drop, List.length_take]; rfl)) ?_; (with_reducible refine (laws_heldIntS.calls kj36 _ _ t719 1 t720 _ ?side1 ?side2 A54.out).mono ?_); (case side1 => repeat (first | exact (Kd.R_reads' HO_7.out).2.2 | (with_reducible refine Kd.C_alloc ?_ _) | (with_reducible refine Kd.C_drewN ?_ _) | (with_reducible refine Kd.C_drew ?_))); (case side2 => rw [show t719.length = t705.length from (Kd.R_reads' HO_7.out).1.symm]; exact (Kd.R_reads' HO_7.out).2.1); rintro e w' ⟨rfl, ⟨nd, rfl⟩⟩; refine ⟨_, rfl, ?_⟩))
                      go_ret
                      exact ⟨by first | rfl | (simp [errW_none, errW_some] <;> rfl) | (simp [*, errW_none, errW_some] <;> rfl), by repeat (first | (with_reducible first | exact HB.out | apply below_alloc | apply pw_below_drewN | apply below_drew1 | refine below_set ?_ GE690.out | refine below_set ?_ GE704.out) | exact HB.out)⟩
          · replace c35 := Bool.eq_false_iff.mpr c35
            subst c35
            have H1 : (some false) = some r := by rw [if_neg (show ¬ (false = true) by decide)] at H; exact H
            clear H
            have H := H1
            clear H1
            obtain rfl := Option.some.inj H
            try go_wp2
            have n0_ := Aside0.mk (Kd.R_drew HO_4.out)
            have n1_ := Aside0.mk (Kd.R_drew HO_7.out)
            have n2_ := Aside0.mk (Kd.R_drew HO_705001.out)
            have n3_ := Aside0.mk (blk_drew BK690.out)
            have n4_ := Aside0.mk (blk_drew BK704.out)
            have n5_ := Aside0.mk (below_drew1 HB.out)
            clear HO_4
            clear HO_7
            clear HO_705001
            clear BK690
            clear BK704
            clear HB
            have HO_4 := n0_
            have HO_7 := n1_
            have HO_705001 := n2_
            have BK690 := n3_
            have BK704 := n4_
            have HB := n5_
            clear n0_ n1_ n2_ n3_ n4_ n5_
            refine start_ (n := 5) (S := fun w' => w'.cell? ⟨gb704, 0, none⟩ = some (.int .i64 t700) ∧ w'.cell? ⟨gb704, 1, none⟩ = some (.slice Ao24 t701.length co24) ∧ w'.cell? ⟨gb690, 0, none⟩ = some (.int .i64 a0_0) ∧ w'.cell? ⟨gb690, 1, none⟩ = some (.slice A0_1 l0_1.length c0_1)) (ds := []) #[false, false, false, false, false] (by kernel_rfl) rfl rfl ⟨(blk_cell BK704.out 0).trans rfl, (blk_cell BK704.out 1).trans rfl, (blk_cell BK690.out 0).trans rfl, (blk_cell BK690.out 1).trans rfl⟩ (fun hHeld => ?_)
            generalize wc.drew = w81 at HO_4 HO_7 HO_705001 BK690 BK704 HB hHeld ⊢
            refine take_ (i := 0) (N := some 41) (v := ?_) (a' := ?_) #[true, false, false, false, false] rfl rfl (by kernel_rfl) (fun _ _ _ h => h) (Or.inl ⟨by rfl, ?_⟩) hHeld ?_ ?_
            rotate_left
            · rintro w' ⟨s0, s1, s2, s3⟩
              go_simp
              with_reducible rfl
            rotate_left
            · simp only [Act.put, List.setIfInBounds_toArray, List.set_cons_zero, List.set_cons_succ, i64_w, i32_w]
              rfl
            refine take_ (i := 1) (N := some 42) (v := ?_) (a' := ?_) #[true, true, false, false, false] rfl rfl (by kernel_rfl) (fun _ _ _ h => h) (Or.inl ⟨by rfl, ?_⟩) hHeld ?_ ?_
            rotate_left
            · rintro w' ⟨s0, s1, s2, s3⟩
              go_simp
              with_reducible rfl
            rotate_left
            · simp only [Act.put, List.setIfInBounds_toArray, List.set_cons_zero, List.set_cons_succ, i64_w, i32_w]
              rfl
            refine one_ (i := 2) (N := some 43) #[true, true, true, false, false] rfl rfl (by kernel_rfl) (by decide) (fun K hK => ?_)
            refine goes_ Try.func17 (by kernel_rfl) rfl #[.agg #[.int .i64 a0_0, .slice A0_1 l0_1.length c0_1]] (by rfl) rfl rfl (by (try simp only [List.map_toArray, List.map_cons, List.map_nil]); first | done | rfl | (simp only [List.length_drop, List.length_take]; rfl)) ?_
            with_reducible refine (laws_toPuzzle.calls kj10 a0_0 _ _ l0_1 t710 t711 _ ?side1 ?side2 A33.out).mono ?_
            (case side1 => repeat (first | exact (Kd.C_below HR0_1.out HB.out) | (with_reducible refine Kd.C_alloc ?_ _) | (with_reducible refine Kd.C_drewN ?_ _) | (with_reducible refine Kd.C_drew ?_)))
            (case side2 => exact HC0_1.out)
            rintro e w82 ⟨v712, rfl, ho0, hb⟩
            refine ⟨_, rfl, ?_⟩
            have n0_ := Aside0.mk (Kd.R_below (by (with_reducible repeat (first | apply Kd.R_alloc | apply Kd.R_drewN | apply Kd.R_drew)); exact HO_4.out) hb)
            have n1_ := Aside0.mk (Kd.R_below (by (with_reducible repeat (first | apply Kd.R_alloc | apply Kd.R_drewN | apply Kd.R_drew)); exact HO_7.out) hb)
            have n2_ := Aside0.mk (Kd.R_elder' (by (with_reducible repeat (first | apply Kd.R_alloc | apply Kd.R_drewN | apply Kd.R_drew)); exact HO_705001.out) (Kd.R_base ho0) hb)
            have n3_ := Aside0.mk (Kd.R_lower (Kd.R_new' ho0 (Kd.R_lt (by (with_reducible repeat (first | apply Kd.R_alloc | apply Kd.R_drewN | apply Kd.R_drew)); exact HO_705001.out))) (below_size (by repeat (first | (with_reducible first | exact HB.out | apply below_alloc | apply pw_below_drewN | apply below_drew1 | refine below_set ?_ GE690.out | refine below_set ?_ GE704.out) | exact HB.out))))
            have n4_ := Aside0.mk (blk_below (g := gb690) (o := .cells #[.int .i64 a0_0, .slice A0_1 l0_1.length c0_1] 24 (0, 0)) (by (with_reducible repeat (first | refine blk_drewN ?_ _ | refine blk_drew ?_ | refine blk_alloc ?_ _)); exact BK690.out) hb)
            have n5_ := Aside0.mk (blk_below (g := gb704) (o := .cells #[.int .i64 t700, .slice Ao24 t701.length co24] 29 (0, 0)) (by (with_reducible repeat (first | refine blk_drewN ?_ _ | refine blk_drew ?_ | refine blk_alloc ?_ _)); exact BK704.out) hb)
            have n6_ := Aside0.mk (below_step (by repeat (first | (with_reducible first | exact HB.out | apply below_alloc | apply pw_below_drewN | apply below_drew1 | refine below_set ?_ GE690.out | refine below_set ?_ GE704.out) | exact HB.out)) hb)
            clear HO_4
            clear HO_7
            clear HO_705001
            clear BK690
            clear BK704
            clear HB
            have HO_4 := n0_
            have HO_7 := n1_
            have HO_705001 := n2_
            have HO713 := n3_
            have BK690 := n4_
            have BK704 := n5_
            have HB := n6_
            clear n0_ n1_ n2_ n3_ n4_ n5_ n6_
            (try clear hb)
            (try clear hb2)
            (try clear hk)
            (try clear hi)
            (try clear ho0)
            obtain ⟨Ao83, co83, eo83⟩ := Kd.R_slice HO713.out
            (first | subst eo83 | (injection eo83 with f1_ f2_ f3_; have f4_ := f1_.symm; have f5_ := f3_.symm; clear f1_ f2_ f3_; subst f4_; subst f5_))
            refine hK.out _ _ ⟨(blk_cell BK704.out 0).trans rfl, (blk_cell BK704.out 1).trans rfl, (blk_cell BK690.out 0).trans rfl, (blk_cell BK690.out 1).trans rfl⟩ (fun hHeld => ?_)
            clear hK K
            refine norm_ (a' := ?_) ?_ ?_
            rotate_left
            · show Act.put _ (some 43) _ = _
              simp only [Act.put, List.setIfInBounds_toArray, List.set_cons_zero, List.set_cons_succ, i64_w, i32_w]
              rfl
            refine one_ (i := 3) (N := some 44) #[true, true, true, true, false] rfl rfl (by kernel_rfl) (by decide) (fun K hK => ?_)
            refine goes_ Try.func19 (by kernel_rfl) rfl #[.agg #[.int .i64 t700, .slice Ao24 t701.length co24], .agg #[.int .i64 t710, .slice Ao83 t711.length co83]] (by rfl) rfl rfl (by (try simp only [List.map_toArray, List.map_cons, List.map_nil]); first | done | rfl | (simp only [List.length_drop, List.length_take]; rfl)) ?_
            with_reducible refine (laws_eqPuzzle.calls kj10 t700 _ _ t701 t710 _ _ t711 false _ ?side1 ?side2 ?side3 ?side4 A34.out).mono ?_
            (case side1 => repeat (first | exact (Kd.R_reads' HO_705001.out).2.2 | (with_reducible refine Kd.C_alloc ?_ _) | (with_reducible refine Kd.C_drewN ?_ _) | (with_reducible refine Kd.C_drew ?_)))
            (case side2 => exact (Kd.R_reads' HO_705001.out).2.1)
            (case side3 => repeat (first | exact (Kd.R_reads' HO713.out).2.2 | (with_reducible refine Kd.C_alloc ?_ _) | (with_reducible refine Kd.C_drewN ?_ _) | (with_reducible refine Kd.C_drew ?_)))
            (case side4 => exact (Kd.R_reads' HO713.out).2.1)
            rintro e w84 ⟨rfl, hb⟩
            refine ⟨_, rfl, ?_⟩
            have n0_ := Aside0.mk (Kd.R_below (by (with_reducible repeat (first | apply Kd.R_alloc | apply Kd.R_drewN | apply Kd.R_drew)); exact HO_4.out) hb)
            have n1_ := Aside0.mk (Kd.R_below (by (with_reducible repeat (first | apply Kd.R_alloc | apply Kd.R_drewN | apply Kd.R_drew)); exact HO_7.out) hb)
            have n2_ := Aside0.mk (Kd.R_below (by (with_reducible repeat (first | apply Kd.R_alloc | apply Kd.R_drewN | apply Kd.R_drew)); exact HO_705001.out) hb)
            have n3_ := Aside0.mk (Kd.R_below (by (with_reducible repeat (first | apply Kd.R_alloc | apply Kd.R_drewN | apply Kd.R_drew)); exact HO713.out) hb)
            have n4_ := Aside0.mk (blk_below (g := gb690) (o := .cells #[.int .i64 a0_0, .slice A0_1 l0_1.length c0_1] 24 (0, 0)) (by (with_reducible repeat (first | refine blk_drewN ?_ _ | refine blk_drew ?_ | refine blk_alloc ?_ _)); exact BK690.out) hb)
            have n5_ := Aside0.mk (blk_below (g := gb704) (o := .cells #[.int .i64 t700, .slice Ao24 t701.length co24] 29 (0, 0)) (by (with_reducible repeat (first | refine blk_drewN ?_ _ | refine blk_drew ?_ | refine blk_alloc ?_ _)); exact BK704.out) hb)
            have n6_ := Aside0.mk (below_step (by repeat (first | (with_reducible first | exact HB.out | apply below_alloc | apply pw_below_drewN | apply below_drew1 | refine below_set ?_ GE690.out | refine below_set ?_ GE704.out) | exact HB.out)) hb)
            clear HO_4
            clear HO_7
            clear HO_705001
            clear HO713
            clear BK690
            clear BK704
            clear HB
            have HO_4 := n0_
            have HO_7 := n1_
            have HO_705001 := n2_
            have HO713 := n3_
            have BK690 := n4_
            have BK704 := n5_
            have HB := n6_
            clear n0_ n1_ n2_ n3_ n4_ n5_ n6_
            (try clear hb)
            (try clear hb2)
            (try clear hk)
            (try clear hi)
            refine hK.out _ _ ⟨(blk_cell BK704.out 0).trans rfl, (blk_cell BK704.out 1).trans rfl, (blk_cell BK690.out 0).trans rfl, (blk_cell BK690.out 1).trans rfl⟩ (fun hHeld => ?_)
            clear hK K
            refine norm_ (a' := ?_) ?_ ?_
            rotate_left
            · show Act.put _ (some 44) _ = _
              simp only [Act.put, List.setIfInBounds_toArray, List.set_cons_zero, List.set_cons_succ, i64_w, i32_w]
              rfl
            refine pure_ (i := 4) (N := some 45) (v := ?_) (a' := ?_) #[true, true, true, true, true] rfl rfl (by kernel_rfl) (fun _ _ _ h => h) (Or.inl ⟨by rfl, ?_⟩) ?_ ?_
            rotate_left
            · intro w'
              go_simp
              with_reducible rfl
            rotate_left
            · simp only [Act.put, List.setIfInBounds_toArray, List.set_cons_zero, List.set_cons_succ, i64_w, i32_w]
              rfl
            refine done_ (by kernel_rfl) ?_
            try go_wp2
            go_ret
            exact ⟨by first | rfl | (simp [errW_none, errW_some] <;> rfl) | (simp [*, errW_none, errW_some] <;> rfl), by repeat (first | (with_reducible first | exact HB.out | apply below_alloc | apply pw_below_drewN | apply below_drew1 | refine below_set ?_ GE690.out | refine below_set ?_ GE704.out) | exact HB.out)⟩

end Go.Proofs.Ytbdjidjcmmeanaa.P

namespace Go.Proofs.Ytbdjidjcmmeanaa.P
open Go.RowKit Go.Proofs.YtbdjidjcmmeanaaW.PrintWords Go.Proofs.YtbdjidjcmmeanaaW.PrintLast Go.Proofs.YtbdjidjcmmeanaaW.PrintMore
set_option linter.unusedVariables false
set_option linter.unusedSimpArgs false
theorem laws_eqIntS.ev_l (l : List Int) (hl : l.length ≤ 4611686018427387904) (d : Nat) : ∀ i : Nat, i + d = l.length → Ev (fun k => laws_eqIntS.l0 k l l (i : Int)) true := by
  induction d with
  | zero =>
    intro i hi
    refine Ev.succ ?_
    simp only [laws_eqIntS.l0, show ¬ ((i : Int) < (l.length : Int)) by omega, if_false]
    exact Ev.now _
  | succ d ih =>
    intro i hi
    refine Ev.succ ?_
    simp only [laws_eqIntS.l0, show ((i : Int) < (l.length : Int)) by omega, show (0 : Int) ≤ (i : Int) by omega, if_true]
    rw [wid (show -9223372036854775808 ≤ (i : Int) + 1 by omega) (by omega)]
    exact ih (i + 1) (by omega)
theorem laws_eqIntS.refl {l : List Int} (hl : l.length ≤ 4611686018427387904) : Ev (fun k => laws_eqIntS.f k l l) true := by
  unfold laws_eqIntS.f
  simp only [if_true]
  exact laws_eqIntS.ev_l l hl l.length 0 (by omega)
end Go.Proofs.Ytbdjidjcmmeanaa.P

namespace Go.Proofs.Ytbdjidjcmmeanaa.P
open Go.RowKit Go.Proofs.YtbdjidjcmmeanaaW.PrintWords Go.Proofs.YtbdjidjcmmeanaaW.PrintLast Go.Proofs.YtbdjidjcmmeanaaW.PrintMore
set_option linter.unusedVariables false
set_option linter.unusedSimpArgs false
def mkIntS (c : Int) (i : Nat) : Int := c + 1 * (i : Int)
def MarkedIntS (c : Int) (l : List Int) (i : Nat) : Prop := ∀ j, j < i → rd l (j : Int) = mkIntS c j
theorem rd_setIntS (l : List Int) (i j : Nat) (x : Int) (h : i < l.length) : rd (l.set i x) (j : Int) = if j = i then x else rd l (j : Int) := by
  unfold rd
  rw [Int.toNat_natCast, List.getD_eq_getElem?_getD, List.getD_eq_getElem?_getD]
  by_cases e : j = i
  · subst e; rw [if_pos rfl, List.getElem?_set_self h]; rfl
  · rw [if_neg e, List.getElem?_set_ne (by omega)]
theorem laws_markIntS.ev_l (c : Int) (hc : 0 ≤ c ∧ c ≤ 1000000) (n : Nat) (hn : n ≤ 1099511627776) (d : Nat) : ∀ (i : Nat) (l : List Int), l.length = n → i + d = n → MarkedIntS c l i → ∃ r : List Int, r.length = n ∧ MarkedIntS c r n ∧ Ev (fun k => laws_markIntS.l0 k l (c + 1 * (i : Int)) (i : Int)) (c + 1 * (n : Int), r) := by
  induction d with
  | zero =>
    intro i l hl hi hm
    obtain rfl : i = n := by omega
    refine ⟨l, hl, hm, ?_⟩
    refine Ev.succ ?_
    simp only [laws_markIntS.l0, show ¬ ((i : Int) < (l.length : Int)) by omega, if_false]
    exact Ev.now _
  | succ d ih =>
    intro i l hl hi hm
    have hlt : i < l.length := by omega
    obtain ⟨r, hr, hmr, hE⟩ := ih (i + 1) (l.set i (mkIntS c i)) (by simpa using hl) (by omega) (fun j hj => by
      rw [rd_setIntS l i j _ hlt]
      by_cases e : j = i
      · rw [if_pos e, e]
      · rw [if_neg e]; exact hm j (by omega))
    refine ⟨r, hr, hmr, ?_⟩
    refine Ev.succ ?_
    simp only [laws_markIntS.l0, show ((i : Int) < (l.length : Int)) by omega, show (0 : Int) ≤ (i : Int) by omega, if_true, Option.bind_some, Int.toNat_natCast]
    rw [wid (show -9223372036854775808 ≤ (c + 1 * (i : Int)) + 1 by omega) (by omega), wid (show -9223372036854775808 ≤ (i : Int) + 1 by omega) (by omega)]
    have e1 : c + 1 * (i : Int) + 1 = c + 1 * ((i + 1 : Nat) : Int) := by omega
    rw [e1]
    exact hE
theorem laws_markIntS.ev (l : List Int) (c : Int) (hc : 0 ≤ c ∧ c ≤ 1000000) (hl : l.length ≤ 1099511627776) : ∃ r : List Int, r.length = l.length ∧ MarkedIntS c r r.length ∧ Ev (fun k => laws_markIntS.f k l c) (c + 1 * (l.length : Int), r) := by
  obtain ⟨r, h1, h2, h3⟩ := laws_markIntS.ev_l c hc l.length hl l.length 0 l rfl (by omega) (fun j h => absurd h (by omega))
  refine ⟨r, h1, by rw [h1]; exact h2, ?_⟩
  unfold laws_markIntS.f
  simpa using h3
theorem laws_heldIntS.ev_l (c : Int) (hc : 0 ≤ c ∧ c ≤ 1000000) (l : List Int) (hn : l.length ≤ 1099511627776) (hm : MarkedIntS c l l.length) (d : Nat) : ∀ i : Nat, i + d = l.length → Ev (fun k => laws_heldIntS.l0 k l (c + 1 * (i : Int)) (i : Int)) (c + 1 * (l.length : Int)) := by
  induction d with
  | zero =>
    intro i hi
    obtain rfl : i = l.length := by omega
    refine Ev.succ ?_
    simp only [laws_heldIntS.l0, show ¬ ((l.length : Int) < (l.length : Int)) by omega, if_false]
    exact Ev.now _
  | succ d ih =>
    intro i hi
    refine Ev.succ ?_
    simp only [laws_heldIntS.l0, show ((i : Int) < (l.length : Int)) by omega, show (0 : Int) ≤ (i : Int) by omega, if_true, hm i (by omega), mkIntS]
    rw [wid (show -9223372036854775808 ≤ (c + 1 * (i : Int)) + 1 by omega) (by omega), wid (show -9223372036854775808 ≤ (i : Int) + 1 by omega) (by omega)]
    have e1 : c + 1 * (i : Int) + 1 = c + 1 * ((i + 1 : Nat) : Int) := by omega
    rw [e1]
    exact ih (i + 1) (by omega)
theorem laws_heldIntS.ev (l : List Int) (c : Int) (hc : 0 ≤ c ∧ c ≤ 1000000) (hn : l.length ≤ 1099511627776) (hm : MarkedIntS c l l.length) : Ev (fun k => laws_heldIntS.f k l c) (c + 1 * (l.length : Int)) := by
  unfold laws_heldIntS.f
  simpa using laws_heldIntS.ev_l c hc l hn hm l.length 0 (by omega)
end Go.Proofs.Ytbdjidjcmmeanaa.P

namespace Go.Proofs.Ytbdjidjcmmeanaa.P
open Go.RowKit Go.Proofs.YtbdjidjcmmeanaaW.PrintWords Go.Proofs.YtbdjidjcmmeanaaW.PrintLast Go.Proofs.YtbdjidjcmmeanaaW.PrintMore
set_option linter.unusedVariables false
set_option linter.unusedSimpArgs false
theorem spec_LeftByClues.ev_l (w : Int) (l : List S37) (h1 : inr 1 12 w = true) (h2 : l.length ≤ 6) (d : Nat) : ∀ (i : Nat) (out : List Int), i + d = l.length + 1 → out.length = i → Ev (fun k => spec_LeftByClues.l0 k out (i : Int) w l) (out ++ (List.range' i d).map (cntBy w l), true) := by
  induction d with
  | zero =>
    intro i out hi ho
    refine Ev.succ ?_
    simp only [spec_LeftByClues.l0, show ¬ ((i : Int) ≤ (l.length : Int)) by omega, if_false]
    exact Ev.const (by simp)
  | succ d ih =>
    intro i out hi ho
    refine Ev.succ ?_
    simp only [spec_LeftByClues.l0, show (0 : Int) ≤ (i : Int) by omega, show ((i : Int) ≤ (l.length : Int)) by omega, show out.length < 17592186044416 by omega, if_true, Int.toNat_natCast]
    rw [wid (show -9223372036854775808 ≤ (i : Int) + 1 by omega) (by omega)]
    refine Ev.bind (spec_pzAll.ev (by rw [List.length_take]; omega) h1) ?_
    exact ev_eq (ih (i + 1) (out ++ [cntBy w l i]) (by omega) (by simp [ho])) (by rw [List.range'_succ, List.map_cons, List.append_assoc]; rfl)
theorem spec_LeftByClues.ev (w : Int) (l : List S37) : Ev (fun k => spec_LeftByClues.f k w l) (mLeft w l) := by
  unfold spec_LeftByClues.f mLeft
  refine Ev.bind (spec_pzGood.ev w l) ?_
  refine Ev.ite (fun h => ?_) (fun _ => Ev.now _)
  obtain ⟨h1, h2, h3⟩ := mPuzzle_parts h
  exact spec_LeftByClues.ev_l w l h1 h2 (l.length + 1) 0 [] (by omega) rfl
end Go.Proofs.Ytbdjidjcmmeanaa.P

namespace Go.Proofs.Ytbdjidjcmmeanaa.Pure
open Go.RowKit Go.Proofs.YtbdjidjcmmeanaaW.PrintWords Go.Proofs.YtbdjidjcmmeanaaW.PrintLast Go.Proofs.YtbdjidjcmmeanaaW.PrintMore Go.Proofs.Ytbdjidjcmmeanaa.P
set_option linter.unusedVariables false
set_option linter.unusedSimpArgs false
theorem FnExactLeftByClues : ∀ (a : Int) (l : List S34), (Lit.int .i64 a).wf = true → l.length ≤ maxLen → (∀ y ∈ l, (Lit.int .i64 y.f0).wf = true ∧ (Lit.int .i64 y.f1).wf = true ∧ (Lit.int .i64 y.f2).wf = true) → ∃ k, laws_FnExactLeftByClues.f k a l = some true := fun a l _ hl _ => by
  by_cases big : (l.length : Int) ≤ 1048576
  · have hl2 : l.length ≤ 11728124029610 := by omega
    have hm : (l.map cvClue).length ≤ 4611686018427387904 := by rw [List.length_map]; omega
    refine Ev.rounds ?_
    unfold laws_FnExactLeftByClues.f
    refine Ev.bindc (laws_szPuzzle.eq hl) ?_
    simp only [if_pos big, show ¬ ((1048576 : Int) - (l.length : Int) < 0) by omega, if_false]
    refine Ev.bind (laws_toPuzzle.ev hl2) ?_
    refine Ev.bind (spec_LeftByClues.ev _ _) ?_
    refine Ev.bind (laws_toPuzzle.ev hl2) ?_
    refine Ev.bind (impl_LeftByClues.ev _ _) ?_
    have hn : (mLeft a (l.map cvClue)).1.length ≤ 1099511627776 := mLeft_len _ _
    refine Ev.bind (laws_eqIntS.refl (l := (mLeft a (l.map cvClue)).1) (by omega)) ?_
    simp only [eq_self_iff_true, if_true, bne_self_eq_false, Bool.false_eq_true, if_false]
    refine Ev.succ ?_
    simp only [laws_FnExactLeftByClues.j0, Bool.false_eq_true, if_false]
    refine Ev.bind (laws_toPuzzle.ev hl2) ?_
    refine Ev.bind (laws_eqPuzzle.refl hm) ?_
    simp only [if_true]
    obtain ⟨r1, _, _, hr1⟩ := laws_markClueS.ev (l.map cvClue) 1 (by omega) (by rw [List.length_map]; omega)
    refine Ev.bind (a := (1 + 3 * ((l.map cvClue).length : Int), r1)) (by unfold laws_markPuzzle.f; exact Ev.bind hr1 (Ev.now _)) ?_
    simp only [show ¬ (1 + 3 * ((l.map cvClue).length : Int) < 0) by omega, if_false]
    refine Ev.bind (laws_eqIntS.refl (l := (mLeft a (l.map cvClue)).1) (by omega)) ?_
    simp only [eq_self_iff_true, if_true, bne_self_eq_false, Bool.false_eq_true, if_false]
    refine Ev.succ ?_
    simp only [laws_FnExactLeftByClues.j1, Bool.false_eq_true, if_false]
    obtain ⟨r2, hr2, hm2, he2⟩ := laws_markIntS.ev (mLeft a (l.map cvClue)).1 1 (by omega) hn
    refine Ev.bind he2 ?_
    have hh := laws_heldIntS.ev r2 1 (by omega) (by omega) hm2
    rw [hr2] at hh
    refine Ev.bind hh ?_
    simp only [show ¬ (1 + 1 * ((mLeft a (l.map cvClue)).1.length : Int) < 0) by omega, if_false, if_true]
    refine Ev.bind (laws_toPuzzle.ev hl2) ?_
    refine Ev.bind (impl_LeftByClues.ev _ _) ?_
    refine Ev.bind (laws_eqIntS.refl (l := (mLeft a (l.map cvClue)).1) (by omega)) ?_
    simp only [eq_self_iff_true, if_true, bne_self_eq_false, Bool.false_eq_true, if_false]
    refine Ev.succ ?_
    simp only [laws_FnExactLeftByClues.j2, Bool.false_eq_true, if_false]
    refine Ev.bind hh ?_
    simp only [show ¬ (1 + 1 * ((mLeft a (l.map cvClue)).1.length : Int) < 0) by omega, if_false, if_true]
    exact Ev.now _
  · refine ⟨0, ?_⟩
    unfold laws_FnExactLeftByClues.f
    rw [laws_szPuzzle.eq hl, if_neg big]
    rfl
end Go.Proofs.Ytbdjidjcmmeanaa.Pure

namespace Go.Proofs.Ytbdjidjcmmeanaa.fnExactLeftByClues
open Go.ChangeShapes Go.WideShapes Go.ChangeAt Go.RowKit Go.Deep
open Go.ChangeMaps (open_string shut_string)
open Go.Proofs.YtbdjidjcmmeanaaW.PrintWords Go.Proofs.YtbdjidjcmmeanaaW.PrintLast Go.Proofs.YtbdjidjcmmeanaaW.PrintMore Go.Proofs.Ytbdjidjcmmeanaa.P
set_option linter.unusedVariables false
set_option linter.unusedSimpArgs false
theorem own : ownKnob Try.prog.godebug = none := by kernel_rfl
theorem laidOut : laidOutB Try.prog = true := by kernel_rfl
theorem cof3 : Try.prog.cellsOf 3 = 1 := by kernel_rfl
theorem cof22 : Try.prog.cellsOf 22 = 1 := by kernel_rfl
theorem cof24 : Try.prog.cellsOf 24 = 2 := by kernel_rfl
theorem cof34 : Try.prog.cellsOf 34 = 3 := by kernel_rfl
theorem C_each {α : Type} (d : Kd α) (w : World) (a : Addr) (len : Nat) (hl : len ≤ 9223372036854775807) (P : α → Prop) (h : ∀ i, i < len → ∃ (x : α) (c : List Value), P x ∧ c.length = d.sz ∧ d.K w x c ∧ ∀ j u, c[j]? = some u → w.cell? (a.add (i * d.sz + j)) = some u) : ∃ xs : List α, xs.length = len ∧ Kd.C d w (some a) len xs ∧ ∀ x ∈ xs, P x := by
  refine ⟨List.ofFn fun i : Fin len => Classical.choose (h i.1 i.2), by simp, ⟨by simp, hl, fun _ => ⟨a, rfl, fun j p hj => ?_⟩⟩, fun x hx => ?_⟩
  · have hjl : j < len := by have := (List.getElem?_eq_some_iff.1 hj).1; simpa using this
    have hp : p = Classical.choose (h j hjl) := by rw [List.getElem?_ofFn, dif_pos hjl] at hj; exact (Option.some.inj hj).symm
    obtain ⟨c, hP, hc, hK, hcell⟩ := Classical.choose_spec (h j hjl)
    exact ⟨c, hc, by rw [hp]; exact hK, hcell⟩
  · obtain ⟨i, rfl⟩ := (List.mem_ofFn).1 hx
    obtain ⟨c, hP, _⟩ := Classical.choose_spec (h i.1 i.2)
    exact hP
set_option maxRecDepth 100000 in
theorem open0 {H : Type} {enc : TypeId × Value → H} {W : World} {base : Nat} {v : Value} {d : DataW H} {p : List MemPlace} (hv : Value.okWide Try.prog W .any base 24 v) (h : DataW.Trod enc Try.prog W 0 (fun _ => true) true 24 v d p) :
    ∃ (a0_0 : Int) (A0_1 : Option Addr) (c0_1 : Nat) (l0_1 : List S34), v = .agg #[.int .i64 a0_0, .slice A0_1 l0_1.length c0_1] ∧ ((Lit.int .i64 a0_0).wf = true) ∧ (Kd.C k34 W A0_1 l0_1.length l0_1 ∧ l0_1.length ≤ c0_1 ∧ c0_1 ≤ maxLen ∧ (∀ y ∈ l0_1, (Lit.int .i64 y.f0).wf = true ∧ (Lit.int .i64 y.f1).wf = true ∧ (Lit.int .i64 y.f2).wf = true)) := by
  obtain ⟨cs, rfl, hsz⟩ := okWide_struct Try.underlying24 hv
  rw [cof24] at hsz
  obtain ⟨l⟩ := cs
  match l, hsz with
  | [c_0, c_1], _ =>
    obtain ⟨fuel, hf⟩ := h
    have hf : DataW.trod enc Try.prog W 0 (fun _ => true) true fuel 24 [c_0, c_1] = some (d, p) := hf
    obtain ⟨xs1, n2, _, _, _, hl3, hg4⟩ := DataW.trod_struct Try.underlying24 hf
    obtain ⟨y5, y6, rfl⟩ : ∃ y5 y6, xs1 = [y5, y6] := by match xs1, hl3 with | [y5, y6], _ => exact ⟨y5, y6, rfl⟩
    have g7 : DataW.trod enc Try.prog W 0 (fun _ => true) true n2 3 [c_0] = some y5 := by have z_ : DataW.trod enc Try.prog W 0 (fun _ => true) true n2 3 (([c_0, c_1].drop 0).take (Try.prog.cellsOf 3)) = [y5, y6][0]? := hg4 0 _ rfl; rw [cof3] at z_; exact z_
    have g8 : DataW.trod enc Try.prog W 0 (fun _ => true) true n2 22 [c_1] = some y6 := by have z_ : DataW.trod enc Try.prog W 0 (fun _ => true) true n2 22 (([c_0, c_1].drop 1).take (Try.prog.cellsOf 22)) = [y5, y6][1]? := hg4 1 _ rfl; rw [cof22] at z_; exact z_
    obtain ⟨a0_0, e9, _, w0_0⟩ := DataW.trod_int Try.underlying3 g7
    obtain rfl : c_0 = _ := by simpa using e9
    obtain ⟨A0_1, c0_1, l0_1, rfl, w0_1⟩ : ∃ A c l, c_1 = .slice A l.length c ∧ Kd.C k34 W A l.length l ∧ l.length ≤ c ∧ c ≤ maxLen ∧ (∀ y ∈ l, (Lit.int .i64 y.f0).wf = true ∧ (Lit.int .i64 y.f1).wf = true ∧ (Lit.int .i64 y.f2).wf = true) := by
      rcases open_slice Try.underlying22 g8 with ⟨hcs, _⟩ | ⟨ad, len, cap, m, n_, D_, Pl_, hcs, _, hlc, hcm, hm, _, hel⟩
      · exact ⟨none, 0, [], by simpa using hcs, ⟨rfl, by simp, fun hp => absurd hp (by simp)⟩, by simp, by unfold maxLen; omega, by simp⟩
      · have hlen : len ≤ 9223372036854775807 := by unfold maxLen at hcm; omega
        have each_ : ∀ i, i < len → ∃ (y : S34) (c : List Value), ((Lit.int .i64 y.f0).wf = true ∧ (Lit.int .i64 y.f1).wf = true ∧ (Lit.int .i64 y.f2).wf = true) ∧ c.length = (k34 : Kd _).sz ∧ (k34 : Kd _).K W y c ∧ ∀ j u, c[j]? = some u → W.cell? (ad.add (i * (k34 : Kd _).sz + j)) = some u := by
          intro i hi
          obtain ⟨cs_, hc_, ht_⟩ := hel i (by simp only [if_true] at hm; omega)
          rw [cof34] at hc_
          obtain ⟨hb_, hn_, hat_⟩ := World.cells?_some hc_
          obtain ⟨u11, u12, u13, rfl⟩ : ∃ u11 u12 u13, cs_ = [u11, u12, u13] := by match cs_, hn_ with | [u11, u12, u13], _ => exact ⟨u11, u12, u13, rfl⟩
          obtain ⟨xs14, n15, _, _, _, hl16, hg17⟩ := DataW.trod_struct Try.underlying34 ht_
          obtain ⟨y18, y19, y20, rfl⟩ : ∃ y18 y19 y20, xs14 = [y18, y19, y20] := by match xs14, hl16 with | [y18, y19, y20], _ => exact ⟨y18, y19, y20, rfl⟩
          have g21 : DataW.trod enc Try.prog W 0 (fun _ => true) true n15 3 [u11] = some y18 := by have z_ : DataW.trod enc Try.prog W 0 (fun _ => true) true n15 3 (([u11, u12, u13].drop 0).take (Try.prog.cellsOf 3)) = [y18, y19, y20][0]? := hg17 0 _ rfl; rw [cof3] at z_; exact z_
          have g22 : DataW.trod enc Try.prog W 0 (fun _ => true) true n15 3 [u12] = some y19 := by have z_ : DataW.trod enc Try.prog W 0 (fun _ => true) true n15 3 (([u11, u12, u13].drop 1).take (Try.prog.cellsOf 3)) = [y18, y19, y20][1]? := hg17 1 _ rfl; rw [cof3] at z_; exact z_
          have g23 : DataW.trod enc Try.prog W 0 (fun _ => true) true n15 3 [u13] = some y20 := by have z_ : DataW.trod enc Try.prog W 0 (fun _ => true) true n15 3 (([u11, u12, u13].drop 2).take (Try.prog.cellsOf 3)) = [y18, y19, y20][2]? := hg17 2 _ rfl; rw [cof3] at z_; exact z_
          obtain ⟨a0_1e0, e24, _, w0_1e0⟩ := DataW.trod_int Try.underlying3 g21
          obtain rfl : u11 = _ := by simpa using e24
          obtain ⟨a0_1e1, e25, _, w0_1e1⟩ := DataW.trod_int Try.underlying3 g22
          obtain rfl : u12 = _ := by simpa using e25
          obtain ⟨a0_1e2, e26, _, w0_1e2⟩ := DataW.trod_int Try.underlying3 g23
          obtain rfl : u13 = _ := by simpa using e26
          refine ⟨(⟨a0_1e0, a0_1e1, a0_1e2⟩ : S34), [.int .i64 a0_1e0, .int .i64 a0_1e1, .int .i64 a0_1e2], ⟨w0_1e0, w0_1e1, w0_1e2⟩, rfl, (k34_mk W _), fun j u hu => ?_⟩
          have hj : j < 3 := by have := (List.getElem?_eq_some_iff.1 hu).1; simpa using this
          have h1_ := hat_ j hj
          have hs_ : (k34 : Kd _).sz = 3 := rfl
          rw [hs_, ← Go.Deep.add_add, h1_]; exact hu
        obtain ⟨xs_, hx_, hC_, hP_⟩ := C_each k34 W ad len hlen (fun y => (Lit.int .i64 y.f0).wf = true ∧ (Lit.int .i64 y.f1).wf = true ∧ (Lit.int .i64 y.f2).wf = true) each_
        exact ⟨some ad, cap, xs_, by rw [hx_]; simpa using hcs, by rw [hx_]; exact hC_, by omega, hcm, hP_⟩
    exact ⟨_, _, _, _, rfl, w0_0, w0_1⟩
set_option maxRecDepth 100000 in
theorem lifted (os : Os) (started : os.Started) (H : Type) (enc : TypeId × Value → H) :
    ReturnsInHanded {} Try.checked os 13 .any (Rows.fnExactLeftByCluesSpec.pre6 enc Try.prog Try.f13 Rows.fnExactLeftByCluesRow.domain false) (Rows.fnExactLeftByCluesSpec.post enc Try.prog Try.f13 false true false false) := by
  refine returnsInHanded_of_change_sized (C := Try.checked) own started (by kernel_rfl) Try.func13
    (ChangeSpec.witness6 (enc := enc) (C := Try.checked) false ⟨#[], #[.agg #[.int .i64 0, .slice none 0 0]], []⟩ 8 (by kernel_rfl) (by kernel_rfl) (by kernel_rfl) (by kernel_rfl)) ?_
  intro W base args ds gs before hval0 hW hcnd hsz0 _
  have hsz : (DataW.weightsEach Try.prog (Try.f13.params.toList ++ Rows.fnExactLeftByCluesSpec.plain.varTypes Try.prog) (ds ++ gs)).all (· ≤ reachBytes) = true := hsz0
  have hval : ∀ (j : Nat) t v, Try.f13.params[j]? = some t → args[j]? = some v → Value.okWide Try.prog W .any base t v := hval0
  have hW' := hW
  obtain ⟨p, q, hA0, hV, rfl, hfz, hnd⟩ := hW
  have hA : DataW.TrodAll enc Try.prog W 0 (fun _ => true) true Try.f13.params.toList args.toList ds p := hA0
  rw [Try.params13] at hA hval hsz
  obtain ⟨v0, vs0, d0, ds0, p0, q0, hargs, rfl, rfl, h0, r0⟩ := trodAll_cons hA
  obtain ⟨rfl, rfl, rfl⟩ := trodAll_nil r0
  obtain rfl : args = #[v0] := by cases args; simp_all
  obtain ⟨rfl, rfl⟩ := trodVars_none hV
  have k0 := h0
  have lt0 : ∀ x ∈ p0, x.block < W.heap.size := by obtain ⟨m, hm⟩ := k0; exact DataW.trod_lt m _ _ _ hm
  obtain ⟨a0_0, A0_1, c0_1, l0_1, rfl, w0_0, ⟨hr0_1, hc0_1, hm0_1, w0_1⟩⟩ := open0 (hval 0 24 v0 rfl rfl) h0
  clear hA0 hval0 hsz0 hsz
  obtain ⟨kk, hk⟩ := Pure.FnExactLeftByClues a0_0 l0_1 w0_0 (Nat.le_trans hc0_1 hm0_1) w0_1
  refine (P.laws_FnExactLeftByClues.calls kk a0_0 _ _ l0_1 true W hr0_1 hc0_1 hk).mono fun e W' ⟨he, bel0⟩ => ?_
  have bel : Below W.heap.size W W' := bel0
  subst he
  exact ⟨_, rfl, _, _, _, [], _, [], hW', trodAll_mk1 (shut_bool Try.underlying4 _), (trodAll_cons_mk (Below.trod laidOut (by kernel_rfl) (of_decide_eq_true (by kernel_rfl)) k0 bel lt0) trodAll_mk0), rfl, bel.frame _, fun h => by cases h⟩
theorem over : Rows.fnExactLeftByCluesRow.holds Try.pinned (OpenSpec.ofChange Rows.fnExactLeftByCluesSpec) :=
  OpenClaim.holds_of_wide 13 Try.f13 rfl rfl rfl rfl rfl rfl rfl ⟨rfl, rfl, rfl, rfl, rfl⟩ rfl rfl rfl rfl rfl (by kernel_rfl) Try.func13 (by kernel_rfl)
    (of_decide_eq_true (by kernel_rfl)) (by unfold Func.isWrapper; first | (rw [if_pos (by decide +kernel)]; kernel_rfl) | (rw [if_neg (by decide +kernel)]; exact ⟨rfl, rfl⟩))
    (fun os started H enc _ => lifted os started H enc)
theorem proved : Rows.FnExactLeftByCluesSaid := over
end Go.Proofs.Ytbdjidjcmmeanaa.fnExactLeftByClues
namespace Go.Proofs.Ytbdjidjcmmeanaa
/-- The row, under a short name, for the claim. -/
theorem fnExactLeftByClues_holds : Rows.FnExactLeftByCluesSaid := fnExactLeftByClues.proved
end Go.Proofs.Ytbdjidjcmmeanaa
