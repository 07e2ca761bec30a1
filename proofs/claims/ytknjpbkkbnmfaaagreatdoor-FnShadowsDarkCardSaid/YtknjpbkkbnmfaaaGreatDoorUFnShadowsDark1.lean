/- The law FnShadowsDark is proved: a call of it returns true and leaves its arguments as they were; and what this needs. Every input that the given rows speak of; nothing else is asked. -/
import Derived.Test.YtknjpbkkbnmfaaaGreatDoorUFnShadowsDark0
set_option maxHeartbeats 8000000
set_option maxRecDepth 100000
namespace Go.Proofs.YtknjpbkkbnmfaaaGreatDoor.P
open Go.RowKit Go.Proofs.YtknjpbkkbnmfaaaGreatDoorW.PrintWords Go.Proofs.YtknjpbkkbnmfaaaGreatDoorW.PrintLast Go.Proofs.YtknjpbkkbnmfaaaGreatDoorW.PrintMore
set_option linter.unusedVariables false
theorem zU1_0 {p : Prop} (h : p := by (with_reducible repeat (first | apply Kd.S_alloc | apply Kd.S_drewN | apply Kd.S_drew)); exact Kd.S_mono HO_4.out (fun k_ hk => ⟨trivial, fun e_ => hk.2 e_⟩)) : p := h
theorem zU1_1 {p : Prop} (h : p := by first | (rw [add_block]; exact hn258_0) | (show (Addr.add _ _).block ≠ _; rw [add_block]; exact hn258_0) | exact hn258_0) : p := h
theorem zU1_2 {p : Prop} (h : p := by first | (rw [add_block]; exact hn258_1) | (show (Addr.add _ _).block ≠ _; rw [add_block]; exact hn258_1) | exact hn258_1) : p := h
theorem zU1_3 {p : Prop} (h : p := by first | (rw [add_block]; exact hn263_0) | (show (Addr.add _ _).block ≠ _; rw [add_block]; exact hn263_0) | exact hn263_0) : p := h
theorem zU1_4 {p : Prop} (h : p := by first | (rw [add_block]; exact hn263_1) | (show (Addr.add _ _).block ≠ _; rw [add_block]; exact hn263_1) | exact hn263_1) : p := h
theorem zU1_5 {p : Prop} (h : p := by first | (rw [add_block]; exact hn289_0) | (show (Addr.add _ _).block ≠ _; rw [add_block]; exact hn289_0) | exact hn289_0) : p := h
theorem zU1_6 {p : Prop} (h : p := by first | (rw [add_block]; exact hn289_1) | (show (Addr.add _ _).block ≠ _; rw [add_block]; exact hn289_1) | exact hn289_1) : p := h
theorem zU1_7 {p : Prop} (h : p := by (with_reducible repeat (first | apply Kd.S_alloc | apply Kd.S_drewN | apply Kd.S_drew)); exact HO_4.out) : p := h
theorem zU1_8 {p : Prop} (h : p := by first | (with_reducible assumption) | assumption) : p := h
theorem zU1_9 {p : Prop} (h : p := by simp) : p := h
end Go.Proofs.YtknjpbkkbnmfaaaGreatDoor.P
namespace Go.Proofs.YtknjpbkkbnmfaaaGreatDoor.P
open Go.RowKit Go.Proofs.YtknjpbkkbnmfaaaGreatDoorW.PrintWords Go.Proofs.YtknjpbkkbnmfaaaGreatDoorW.PrintLast Go.Proofs.YtknjpbkkbnmfaaaGreatDoorW.PrintMore
attribute [local go_sem] max2_int min2_int max_two min_two max_three min_three max_four min_four   -- for this text's walks alone
set_option linter.unusedVariables false
set_option linter.unusedSimpArgs false

/-! ### impl_HiddenPoles: function 8 -/
mutual
def impl_HiddenPoles.l0 : Nat → Int → List (S39) → List Int → List (S39) → Int → Int → Option (List Int × Bool)
 | 0, _, _, _, _, _, _ => none
 | k + 1, x0, x1, x6, x16, x17, x18 => if x18 < x17 then (if 0 ≤ x18 then (if x18 < (x16.length : Int) then (if x18 ≤ (x1.length : Int) then ((some (x1.take (x18 : Int).toNat : List (S39))).bind fun y225 => (impl_HiddenPoles.l1 k x0 x1 x6 x18 x16 x17 x18 y225 (y225.length : Int) 0 ((rd_T39 x16 x18).f0) ((rd_T39 x16 x18).f1))) else (none)) else (none)) else (none)) else (some (x6, true))
def impl_HiddenPoles.l1 : Nat → Int → List (S39) → List Int → Int → List (S39) → Int → Int → List (S39) → Int → Int → Int → Int → Option (List Int × Bool)
 | 0, _, _, _, _, _, _, _, _, _, _, _, _ => none
 | k + 1, x0, x1, x6, x7, x16, x17, x18, x25, x26, x27, x225000, x225001 => if x27 < x26 then (if 0 ≤ x27 then (if x27 < (x25.length : Int) then ((impl_isHidden.f x0 ((rd_T39 x25 x27).f0) ((rd_T39 x25 x27).f1) x225000 x225001).bind fun t231 => (if t231 = true then (if x6.length < 17592186044416 then (impl_HiddenPoles.l0 k x0 x1 (x6 ++ [x7]) x16 x17 (wrap64 (x18 + 1))) else (none)) else (impl_HiddenPoles.l1 k x0 x1 x6 x7 x16 x17 x18 x25 x26 (wrap64 (x27 + 1)) x225000 x225001))) else (none)) else (none)) else (impl_HiddenPoles.l0 k x0 x1 x6 x16 x17 (wrap64 (x18 + 1)))
end
def impl_HiddenPoles.f (k : Nat) (a0 : Int) (l1 : List (S39)) : Option (List Int × Bool) := (impl_ArePoles.f k a0 l1).bind fun t219 => (if t219 = true then (impl_HiddenPoles.l0 k a0 l1 (([] : List Int)) l1 (l1.length : Int) 0) else (some (([] : List Int), false)))
theorem impl_HiddenPoles.calls (k : Nat) (a0 : Int) (A1 : Option Addr) (c1 : Nat) (l1 : List (S39)) (r1 : List Int) (r2 : Bool) (w : World) (hr1 : Kd.C k39 w A1 l1.length l1) (hc1 : l1.length ≤ c1) (h : impl_HiddenPoles.f k a0 l1 = some (r1, r2)) :
 Calls Tryz.prog 8 #[.int .i64 a0, .slice A1 l1.length c1] w fun e w' => ∃ v0_ : Value, e = .returned (.tuple #[v0_, .bool r2]) ∧ Kd.R (Kd.int .i64) 3 w' w.heap.size (fun _ => True) v0_ r1 ∧ Below w.heap.size w w' := by
 have hu39 := Tryz.underlying39; have HR1 := Aside0.mk hr1; have HC1 := Aside0.mk hc1; clear hr1 hc1
 have HB := Aside0.mk (Below.refl w.heap.size w)
 have H := h; rw [impl_HiddenPoles.f] at H; clear h; obtain ⟨t219, A3, H⟩ := zB H; (try dsimp only at H)
 by_cases c4 : t219 = true
 ·subst c4
  rw [if_pos rfl] at H
  obtain ⟨y220, hy220⟩ : ∃ y_ : List Int, y_ = (([] : List Int)) := ⟨_, rfl⟩
  replace H : (impl_HiddenPoles.l0 k a0 l1 y220 l1 (l1.length : Int) 0) = some (r1, r2) := by first | (rw [hy220]; with_reducible exact H) | (have H2_ := (Option.bind_some _ _).symm.trans H; rw [hy220]; with_reducible exact H2_) | (have H2_ := (Option.bind_some _ _).symm.trans H; with_reducible exact H2_) | with_reducible exact H | (rw [hy220]; exact H) | exact H
  have Ny220 := Aside0.mk hy220; clear hy220; have H' := Aside0.mk H; clear H
  go_enter Tryz.func8, Tryz.ntmps8
  go_wp2_with (first | ((with_reducible refine gate_callee (f := 15) rfl ?_); refine zG (some 13) Tryz.func15 #[.int .i64 a0, .slice A1 l1.length c1] ?_; (with_reducible refine (impl_ArePoles.calls k a0 _ _ l1 true _ ?side1 ?side2 A3.out).mono ?_); (case side1 => repeat (first | exact HR1.out | (with_reducible refine Kd.C_alloc ?_ _) | (with_reducible refine Kd.C_drewN ?_ _) | (with_reducible refine Kd.C_drew ?_))); (case side2 => exact HC1.out); rintro e w5 ⟨rfl, hb⟩; refine ⟨_, rfl, ?_⟩; replace HB := zh HB hb; clear hb) | ((with_reducible refine gate_dst (N := 15) rfl ?_); refine Kd.R_lit (Kd.int .i64) _ 3 ?hg (N := 15) ?hd (xs := ([] : List Int)) (inner := []) (ok := fun _ => True) (okp := fun _ => True) ?hr ?hp (fun _ hk => hk) trivial (Below.refl _ _) (Nat.le_refl _) zU1_9 ?_; (case hd => rfl); (case hg => rfl); (case hr => first | (go_simp; done) | (go_simp; rfl)); (case hp => exact (Reps.none _ _)); intro v221 w6 ho7 hb hg_ hnew_; clear hg_ hnew_; (first | rw [← Ny220.out] at ho7 | (simp only [Int.reduceToNat] at ho7; rw [← Ny220.out] at ho7)); have HO222 := Aside0.mk (Kd.R_lower ho7 (below_size (zy HB))); replace HB := zh HB hb; clear hb ho7))
  go_loopg [6, 18] k (fun kq v6 v18 w' => ∃ (x6_1 : List Int) (x18_1 : Int), v18 = .int .i64 x18_1 ∧ Aside0 (impl_HiddenPoles.l0 kq a0 l1 x6_1 l1 (l1.length : Int) x18_1 = some (r1, r2)) ∧ Aside0 (kq ≤ k) ∧ Aside0 (Kd.R (Kd.int .i64) 3 w' w.heap.size (fun _ => True) v6 x6_1) ∧ Aside0 (Below w.heap.size w w'))
  case atStart => exact ⟨(y220), (0), zu, H', ⟨Nat.le_refl _⟩, zp HO222, ⟨zy HB⟩⟩
  case round =>
   clear H'
   obtain ⟨x6_1, x18_1, rfl, HA, HK1, HO_6, HB⟩ := hrel
   cases gk with
   | zero => exact absurd HA.out (by simp [impl_HiddenPoles.l0])
   | succ k1 =>
    have H := HA.out; clear HA; simp only [impl_HiddenPoles.l0] at H
    by_cases c8 : x18_1 < (l1.length : Int)
    ·rw [if_pos c8] at H
     have c8b0 := decide_eq_true c8; clear c8
     by_cases c9 : 0 ≤ x18_1
     ·rw [if_pos c9] at H
      have c9b0 := decide_eq_true c9; clear c9
      by_cases c10 : x18_1 < (l1.length : Int)
      ·rw [if_pos c10] at H
       have c10b0 := decide_eq_true c10; clear c10
       have c11b0 := eq_true (of_decide_eq_true zU1_8 : 0 ≤ x18_1)
       by_cases c12 : x18_1 ≤ (l1.length : Int)
       ·rw [if_pos c12] at H
        have c12b0 := eq_true c12; have c12b1 := decide_eq_true c12; clear c12
        obtain ⟨y225, hy225⟩ : ∃ y_ : List (S39), y_ = (l1.take (x18_1 : Int).toNat) := ⟨_, rfl⟩
        replace H : (impl_HiddenPoles.l1 k1 a0 l1 x6_1 x18_1 l1 (l1.length : Int) x18_1 y225 (y225.length : Int) 0 ((rd_T39 l1 x18_1).f0) ((rd_T39 l1 x18_1).f1)) = some (r1, r2) := by first | (rw [hy225]; with_reducible exact H) | (have H2_ := (Option.bind_some _ _).symm.trans H; rw [hy225]; with_reducible exact H2_) | (have H2_ := (Option.bind_some _ _).symm.trans H; with_reducible exact H2_) | with_reducible exact H | (rw [hy225]; exact H) | exact H
        have Ny225 := Aside0.mk hy225; clear hy225; have H' := Aside0.mk H; clear H
        have p223 : 0 ≤ (x18_1 : Int) := of_decide_eq_true zU1_8
        have q223 : x18_1 < (l1.length : Int) := of_decide_eq_true zU1_8
        obtain ⟨ad223, e223, hx223_0, hx223_1⟩ := at_T39 HR1.out x18_1 p223 q223
        cases e223
        replace hx223_0 := (HB.out.cell (World.block_lt_of_cell? w _ hx223_0)).trans hx223_0
        replace hx223_1 := (HB.out.cell (World.block_lt_of_cell? w _ hx223_1)).trans hx223_1
        replace p223 := eq_true p223; replace q223 := eq_true q223
        go_wp2_with (first | ((with_reducible refine gate_dst (N := 8) rfl ?_); refine zE 8 #[.int .i64 0, .int .i64 0] 39 ?_; intro gb224 hg w13 hbox hb; have BK224 := Aside0.mk (hbox); have GW224 := zg HB hg; replace HO_6 := zo HO_6 hb; replace HB := zh HB hb; clear hb hbox hg; obtain ⟨_, _, _, _⟩ := zc2 BK224) | ((with_reducible refine gate_store (t := 39) (p := 8) rfl ?_); refine store_event (t := 39) (p := 8) (v := ?vo_w15) (w1 := ((w13.setCell ⟨gb224, 0, none⟩ (.int .i64 ((rd_T39 l1 x18_1).f0))).setCell ⟨gb224, 1, none⟩ (.int .i64 ((rd_T39 l1 x18_1).f1)))) ?hg ?ho ?hn ?hr ?_; (case ho => rfl); (case hg => rfl); (case hn => rfl); (case hr => first | (go_simp; done) | (go_simp; rfl)); intro w15 hw; have n0_ : Aside0 (Kd.R (Kd.int .i64) 3 w15 w.heap.size (fun _ => True) u6 x6_1) := ⟨(by rw [hw]; exact (zrp (Kd.R_mono (Kd.R_far (p := ⟨gb224, 1, none⟩) (Kd.R_far (p := ⟨gb224, 0, none⟩) (Kd.R_types HO_6.out BK224.out (by decide)) (fun _ hk => hk.2) (.int .i64 ((rd_T39 l1 x18_1).f0))) (fun _ hk => hk.2) (.int .i64 ((rd_T39 l1 x18_1).f1))) (fun _ hk => trivial))))⟩; have n1_ : Aside0 (w15.heap[gb224]? = some (.cells #[.int .i64 ((rd_T39 l1 x18_1).f0), .int .i64 ((rd_T39 l1 x18_1).f1)] 39 (0, 0))) := ⟨(by rw [hw]; exact (zw BK224))⟩; have n2_ : Aside0 (Below w.heap.size w w15) := ⟨(by rw [hw]; exact (zy HB))⟩; clear hw; clear HO_6; have HO_6 := n0_; clear n0_; clear BK224; have BK224 := n1_; clear n1_; clear HB; have HB := n2_; clear n2_; have q16 : (x18_1 : Int) ≤ ((l1.length : Int) : Int) := of_decide_eq_true zU1_8; obtain ⟨i016, hi016, _, hsz16, _⟩ := info_parts info39; have hroom16 : l1.length ≤ c1 := HC1.out; have hC16 : Kd.C k39 _ (some ad223) l1.length l1 := HR1.out; have hcut16 := cut_to (P := Tryz.prog) 24 39 .i64 Tryz.underlying24 hi016 (some ad223) l1.length c1 x18_1 (of_decide_eq_true zU1_8) q16 hroom16; have hr16 := Kd.C_take (m := (x18_1 : Int).toNat) hC16 (by omega); have hy16 : y225.length = (x18_1 : Int).toNat := (by rw [Ny225.out, List.length_take]; omega); rw [← Ny225.out] at hr16; rw [← hy16] at hcut16; have HR228 := Aside0.mk hr16; have HC228 := Aside0.mk (show y225.length ≤ c1 from by omega); clear hr16 hC16 hroom16 hi016 hsz16; have KY16 := Aside0.mk hy16; clear hy16; replace q16 := eq_true q16))
        go_loopg [6, 27] k1 (fun kq v6 v27 w' => ∃ (x6_2 : List Int) (x27_2 : Int), v27 = .int .i64 x27_2 ∧ Aside0 (impl_HiddenPoles.l1 kq a0 l1 x6_2 x18_1 l1 (l1.length : Int) x18_1 y225 (y225.length : Int) x27_2 ((rd_T39 l1 x18_1).f0) ((rd_T39 l1 x18_1).f1) = some (r1, r2)) ∧ Aside0 (kq ≤ k1) ∧ Aside0 (Kd.R (Kd.int .i64) 3 w' w.heap.size (fun _ => True) v6 x6_2) ∧ Aside0 (w'.heap[gb224]? = some (.cells #[.int .i64 ((rd_T39 l1 x18_1).f0), .int .i64 ((rd_T39 l1 x18_1).f1)] 39 (0, 0))) ∧ Aside0 (Below w.heap.size w w'))
        case atStart => exact ⟨(x6_1), (0), zu, H', ⟨Nat.le_refl _⟩, zp HO_6, zk BK224, ⟨zy HB⟩⟩
        case round =>
         clear H'
         obtain ⟨x6_2, x27_2, rfl, HA, HK2, HO_6, BK224, HB⟩ := hrel
         cases gk with
         | zero => exact absurd HA.out (by simp [impl_HiddenPoles.l1])
         | succ k2 =>
          have H := HA.out; clear HA; simp only [impl_HiddenPoles.l1] at H
          by_cases c17 : x27_2 < (y225.length : Int)
          ·rw [if_pos c17] at H
           have c17b0 := decide_eq_true c17; clear c17
           by_cases c18 : 0 ≤ x27_2
           ·rw [if_pos c18] at H
            have c18b0 := decide_eq_true c18; clear c18
            by_cases c19 : x27_2 < (y225.length : Int)
            ·rw [if_pos c19] at H
             have c19b0 := decide_eq_true c19; clear c19; obtain ⟨t231, A20, H⟩ := zB H; (try dsimp only at H)
             by_cases c21 : t231 = true
             ·subst c21
              rw [if_pos rfl] at H
              by_cases c22 : x6_2.length < 17592186044416
              ·rw [if_pos c22] at H
               have LMc22 := Aside0.mk c22; clear c22
               obtain ⟨y232, hy232⟩ : ∃ y_ : List Int, y_ = (x6_2 ++ [x18_1]) := ⟨_, rfl⟩
               replace H : (impl_HiddenPoles.l0 k2 a0 l1 y232 l1 (l1.length : Int) (wrap64 (x18_1 + 1))) = some (r1, r2) := by first | (rw [hy232]; with_reducible exact H) | (have H2_ := (Option.bind_some _ _).symm.trans H; rw [hy232]; with_reducible exact H2_) | (have H2_ := (Option.bind_some _ _).symm.trans H; with_reducible exact H2_) | with_reducible exact H | (rw [hy232]; exact H) | exact H
               have Ny232 := Aside0.mk hy232; clear hy232; have H' := Aside0.mk H; clear H
               have p229 : 0 ≤ (x27_2 : Int) := of_decide_eq_true zU1_8
               have q229 : x27_2 < (y225.length : Int) := of_decide_eq_true zU1_8
               obtain ⟨ad229, e229, hx229_0, hx229_1⟩ := at_T39 HR228.out x27_2 p229 q229
               obtain rfl : ad223 = ad229 := (by injection e229)
               replace hx229_0 := (HB.out.cell (World.block_lt_of_cell? w _ hx229_0)).trans hx229_0
               replace hx229_1 := (HB.out.cell (World.block_lt_of_cell? w _ hx229_1)).trans hx229_1
               replace p229 := eq_true p229; replace q229 := eq_true q229
               go_wp2_with (first | ((with_reducible refine gate_dst (N := 10) rfl ?_); refine zE 10 #[.int .i64 0, .int .i64 0] 39 ?_; intro gb230 hg w23 hbox hb; have BK230 := Aside0.mk (hbox); have GW230 := zg HB hg; have NB224_230 := zl BK224 hg; have NB230_224 := zr BK224 hg; replace HO_6 := zo HO_6 hb; replace BK224 := zb BK224 hb; replace HB := zh HB hb; clear hb hbox hg; have hnb24 := NB230_224.out; have hnc24 := NB224_230.out; obtain ⟨_, _, _, _⟩ := zc2 BK230; obtain ⟨_, _, _, _⟩ := zc2 BK224) | ((with_reducible refine gate_callee (f := 41) rfl ?_); refine zG (some 34) Tryz.func41 #[.int .i64 a0, .agg #[.int .i64 ((rd_T39 y225 x27_2).f0), .int .i64 ((rd_T39 y225 x27_2).f1)], .agg #[.int .i64 ((rd_T39 l1 x18_1).f0), .int .i64 ((rd_T39 l1 x18_1).f1)]] ?_; (with_reducible refine (impl_isHidden.calls a0 ((rd_T39 y225 x27_2).f0) ((rd_T39 y225 x27_2).f1) ((rd_T39 l1 x18_1).f0) ((rd_T39 l1 x18_1).f1) true _ A20.out).mono ?_); rintro e w27 ⟨rfl, hb⟩; refine ⟨_, rfl, ?_⟩; have n0_ := Aside0.mk (Kd.R_below (zrp (Kd.R_mono (Kd.R_far (p := ⟨gb230, 1, none⟩) (Kd.R_far (p := ⟨gb230, 0, none⟩) (Kd.R_types HO_6.out BK230.out (by decide)) (fun _ hk => hk.2) (.int .i64 ((rd_T39 y225 x27_2).f0))) (fun _ hk => hk.2) (.int .i64 ((rd_T39 y225 x27_2).f1))) (fun _ h_ => h_.1))) hb); have n2_ := Aside0.mk (blk_below (g := gb230) (o := .cells #[.int .i64 ((rd_T39 y225 x27_2).f0), .int .i64 ((rd_T39 y225 x27_2).f1)] 39 (0, 0)) (zw BK230) hb); replace BK224 := zb BK224 hb; replace HB := zh HB hb; clear HO_6; have HO_6 := n0_; clear n0_; clear BK230; have BK230 := n2_; clear n2_; clear hb) | ((with_reducible refine gate_builtin (b := .append) (xs := #[.tmp 35, .tmp 37]) rfl ?_); at_builtin; refine Kd.R_append (Kd.int .i64) (w0 := w) w.heap.size rfl (.tmp 35) (.tmp 37) 27 3 (.int .i64 0) 8 rfl Tryz.underlying27 info3 rfl (by decide) (by omega) u6 x6_2 x18_1 [.int .i64 x18_1] (fun _ => True) (fun _ => False) rfl rfl ?aP (fun _ hk => hk.elim) ?aF ?aO ?aB ?aS ?aL ?_; (case aP => exact rfl); (case aB => exact (zy HB)); (case aF => exact (fun _ _ => trivial)); (case aO => exact (zs HO_6)); (case aS => exact (below_size (zy HB))); (case aL => have := LMc22.out; omega); intro v233 w28 ho hb hg hat; rw [← Ny232.out] at ho; have n0_ := Aside0.mk (blk_grown (zq BK224) hg (Kd.R_ne HO_6.out BK224.out (by decide))); have n1_ := Aside0.mk (blk_grown (zq BK230) hg (Kd.R_ne HO_6.out BK230.out (by decide))); have HO234 := Aside0.mk (ho); replace HB := Aside0.mk hb; clear HO_6; clear BK224; have BK224 := n0_; clear n0_; clear BK230; have BK230 := n1_; clear n1_; clear ho hb hg hat))
               go_roundg k2
               case measure => have := HK1.out; have := HK2.out; omega
               case rel => exact ⟨(y232), (wrap64 (x18_1 + 1)), zu, H', ⟨by have := HK1.out; have := HK2.out; omega⟩, zp HO234, ⟨zy HB⟩⟩
              ·rw [if_neg c22] at H
               exact absurd H zU1_9
             ·replace c21 := Bool.eq_false_iff.mpr c21
              subst c21; rw [if_neg (show ¬ (false = true) by decide)] at H; have H' := Aside0.mk H; clear H
              have p229 : 0 ≤ (x27_2 : Int) := of_decide_eq_true zU1_8
              have q229 : x27_2 < (y225.length : Int) := of_decide_eq_true zU1_8
              obtain ⟨ad229, e229, hx229_0, hx229_1⟩ := at_T39 HR228.out x27_2 p229 q229
              obtain rfl : ad223 = ad229 := (by injection e229)
              replace hx229_0 := (HB.out.cell (World.block_lt_of_cell? w _ hx229_0)).trans hx229_0
              replace hx229_1 := (HB.out.cell (World.block_lt_of_cell? w _ hx229_1)).trans hx229_1
              replace p229 := eq_true p229; replace q229 := eq_true q229
              go_wp2_with (first | ((with_reducible refine gate_dst (N := 10) rfl ?_); refine zE 10 #[.int .i64 0, .int .i64 0] 39 ?_; intro gb230 hg w29 hbox hb; have BK230 := Aside0.mk (hbox); have GW230 := zg HB hg; have NB224_230 := zl BK224 hg; have NB230_224 := zr BK224 hg; replace HO_6 := zo HO_6 hb; replace BK224 := zb BK224 hb; replace HB := zh HB hb; clear hb hbox hg; have hnb30 := NB230_224.out; have hnc30 := NB224_230.out; obtain ⟨_, _, _, _⟩ := zc2 BK230; obtain ⟨_, _, _, _⟩ := zc2 BK224) | ((with_reducible refine gate_callee (f := 41) rfl ?_); refine zG (some 34) Tryz.func41 #[.int .i64 a0, .agg #[.int .i64 ((rd_T39 y225 x27_2).f0), .int .i64 ((rd_T39 y225 x27_2).f1)], .agg #[.int .i64 ((rd_T39 l1 x18_1).f0), .int .i64 ((rd_T39 l1 x18_1).f1)]] ?_; (with_reducible refine (impl_isHidden.calls a0 ((rd_T39 y225 x27_2).f0) ((rd_T39 y225 x27_2).f1) ((rd_T39 l1 x18_1).f0) ((rd_T39 l1 x18_1).f1) false _ A20.out).mono ?_); rintro e w33 ⟨rfl, hb⟩; refine ⟨_, rfl, ?_⟩; have n0_ := Aside0.mk (Kd.R_below (zrp (Kd.R_mono (Kd.R_far (p := ⟨gb230, 1, none⟩) (Kd.R_far (p := ⟨gb230, 0, none⟩) (Kd.R_types HO_6.out BK230.out (by decide)) (fun _ hk => hk.2) (.int .i64 ((rd_T39 y225 x27_2).f0))) (fun _ hk => hk.2) (.int .i64 ((rd_T39 y225 x27_2).f1))) (fun _ h_ => h_.1))) hb); have n2_ := Aside0.mk (blk_below (g := gb230) (o := .cells #[.int .i64 ((rd_T39 y225 x27_2).f0), .int .i64 ((rd_T39 y225 x27_2).f1)] 39 (0, 0)) (zw BK230) hb); replace BK224 := zb BK224 hb; replace HB := zh HB hb; clear HO_6; have HO_6 := n0_; clear n0_; clear BK230; have BK230 := n2_; clear n2_; clear hb))
              go_roundg k2
              case measure => have := HK1.out; have := HK2.out; omega
              case rel => exact ⟨(x6_2), (wrap64 (x27_2 + 1)), zu, H', ⟨by have := HK1.out; have := HK2.out; omega⟩, zp HO_6, zk BK224, ⟨zy HB⟩⟩
            ·rw [if_neg c19] at H
             exact absurd H zU1_9
           ·rw [if_neg c18] at H
            exact absurd H zU1_9
          ·rw [if_neg c17] at H
           have c17b0 := decide_eq_false c17; clear c17; have H' := Aside0.mk H; clear H
           go_wp2
           go_roundg k2
           case measure => have := HK1.out; have := HK2.out; omega
           case rel => exact ⟨(x6_2), (wrap64 (x18_1 + 1)), zu, H', ⟨by have := HK1.out; have := HK2.out; omega⟩, zp HO_6, ⟨zy HB⟩⟩
       ·rw [if_neg c12] at H
        exact absurd H zU1_9
      ·rw [if_neg c10] at H
       exact absurd H zU1_9
     ·rw [if_neg c9] at H
      exact absurd H zU1_9
    ·rw [if_neg c8] at H
     have c8b0 := decide_eq_false c8; clear c8; simp only [Option.some.injEq, Prod.mk.injEq] at H; obtain ⟨rfl, rfl⟩ := H
     go_wp2
     go_ret2
     exact ⟨_, zt, by (with_reducible repeat (first | apply Kd.R_alloc | apply Kd.R_drewN | apply Kd.R_drew)); exact HO_6.out, zy HB⟩
 ·replace c4 := Bool.eq_false_iff.mpr c4
  subst c4; rw [if_neg (show ¬ (false = true) by decide)] at H; simp only [Option.some.injEq, Prod.mk.injEq] at H; obtain ⟨rfl, rfl⟩ := H
  go_enter Tryz.func8, Tryz.ntmps8
  go_wp2_with (first | ((with_reducible refine gate_callee (f := 15) rfl ?_); refine zG (some 13) Tryz.func15 #[.int .i64 a0, .slice A1 l1.length c1] ?_; (with_reducible refine (impl_ArePoles.calls k a0 _ _ l1 false _ ?side1 ?side2 A3.out).mono ?_); (case side1 => repeat (first | exact HR1.out | (with_reducible refine Kd.C_alloc ?_ _) | (with_reducible refine Kd.C_drewN ?_ _) | (with_reducible refine Kd.C_drew ?_))); (case side2 => exact HC1.out); rintro e w34 ⟨rfl, hb⟩; refine ⟨_, rfl, ?_⟩; replace HB := zh HB hb; clear hb))
  go_ret2
  exact ⟨_, zt, by first | exact Kd.R_nil _ _ _ _ _ | exact Kd.N_nil _ _ _ _ _ | exact Kd.V_nil _ _ _ _ _ | exact Kd.Q_nil _ _ _ _ _ | exact Kd.S_nil _ _ _ _ _, zy HB⟩


/-! ### spec_clLow: function 48 -/
def spec_clLow.l0 : Nat → Int → Int → Int → Int → Option (Int × Int)
 | 0, _, _, _, _ => none
 | k + 1, x0, x1, x6, x7 => if x7 > 0 then (if x7 = 0 then (none) else (spec_clLow.l0 k x0 x1 x7 (Int.tmod x6 x7))) else (if x6 = 0 then (none) else (some (wrap64 (Int.tdiv x0 x6), wrap64 (Int.tdiv x1 x6))))
def spec_clLow.f (k : Nat) (a0 : Int) (a1 : Int) : Option (Int × Int) := spec_clLow.l0 k a0 a1 a0 a1
theorem spec_clLow.calls (k : Nat) (a0 : Int) (a1 : Int) (r1 : Int) (r2 : Int) (w : World) (h : spec_clLow.f k a0 a1 = some (r1, r2)) :
 Calls Tryz.prog 48 #[.int .i64 a0, .int .i64 a1] w fun e w' => e = .returned (.tuple #[.int .i64 r1, .int .i64 r2]) ∧ Drawn0 w w' := by
 have H := h; rw [spec_clLow.f] at H; clear h; have H' := Aside0.mk H; clear H
 go_enter Tryz.func48, Tryz.ntmps48
 go_wp2
 repeat (go_quiet (fail); try go_wp2)
 go_loopg [6, 7] k (fun kq v6 v7 w' => ∃ (x6_1 : Int) (x7_1 : Int), v6 = .int .i64 x6_1 ∧ v7 = .int .i64 x7_1 ∧ Aside0 (spec_clLow.l0 kq a0 a1 x6_1 x7_1 = some (r1, r2)) ∧ Aside0 (kq ≤ k) ∧ Drawn0 w w')
 case atStart => exact ⟨(a0), (a1), zu, zu, H', ⟨Nat.le_refl _⟩, by repeat (first | exact Drawn0.refl _ | apply Drawn0.step)⟩
 case round =>
  clear H'
  obtain ⟨x6_1, x7_1, rfl, rfl, HA, HK1, ⟨m1, rfl⟩⟩ := hrel
  cases gk with
  | zero => exact absurd HA.out (by simp [spec_clLow.l0])
  | succ k1 =>
   have H := HA.out; clear HA; simp only [spec_clLow.l0] at H
   by_cases c3 : x7_1 > 0
   ·rw [if_pos c3] at H
    have c3b0 := decide_eq_true c3; clear c3
    by_cases c4 : x7_1 = 0
    ·rw [if_pos c4] at H
     exact absurd H zU1_9
    ·rw [if_neg c4] at H
     have c4b0 := beq_eq_false_iff_ne.mpr c4; have c4b1 := bne_iff_ne.mpr c4; have H' := Aside0.mk H; clear H
     go_wp2
     repeat (go_quiet (fail); try go_wp2)
     go_roundg k1
     case measure => have := HK1.out; omega
     case rel => exact ⟨(x7_1), (Int.tmod x6_1 x7_1), zu, zu, H', ⟨by have := HK1.out; omega⟩, by repeat (first | exact Drawn0.refl _ | apply Drawn0.step)⟩
   ·rw [if_neg c3] at H
    have c3b0 := decide_eq_false c3; clear c3
    by_cases c5 : x6_1 = 0
    ·rw [if_pos c5] at H
     exact absurd H zU1_9
    ·rw [if_neg c5] at H
     have c5b0 := beq_eq_false_iff_ne.mpr c5; have c5b1 := bne_iff_ne.mpr c5; simp only [Option.some.injEq, Prod.mk.injEq] at H; obtain ⟨rfl, rfl⟩ := H
     go_wp2
     repeat (go_quiet (fail); try go_wp2)
     go_ret2
     exact ⟨by first | rfl | (simp; done) | (simp [*]; done), by repeat (first | exact Drawn0.refl _ | apply Drawn0.step)⟩


/-! ### spec_swHeight: function 63 -/
def spec_swHeight.f (k : Nat) (a0 : Int) (a1_0 : Int) (a1_1 : Int) (a2 : Int) : Option (Int × Int) := if (wrap64 ((wrap64 (a0 * a1_0)) - (wrap64 ((wrap64 (a0 - a1_1)) * a2)))) ≤ 0 then (some (0, 1)) else ((spec_clLow.f k (wrap64 ((wrap64 (a0 * a1_0)) - (wrap64 ((wrap64 (a0 - a1_1)) * a2)))) a1_0).bind fun bt236 => (some (bt236.1, bt236.2)))
theorem spec_swHeight.calls (k : Nat) (a0 : Int) (a1_0 : Int) (a1_1 : Int) (a2 : Int) (r1 : Int) (r2 : Int) (w : World) (h : spec_swHeight.f k a0 a1_0 a1_1 a2 = some (r1, r2)) :
 Calls Tryz.prog 63 #[.int .i64 a0, .agg #[.int .i64 a1_0, .int .i64 a1_1], .int .i64 a2] w fun e w' => e = .returned (.tuple #[.int .i64 r1, .int .i64 r2]) ∧ Below w.heap.size w w' := by
 have hu39 := Tryz.underlying39
 have HB := Aside0.mk (Below.refl w.heap.size w)
 have H := h; rw [spec_swHeight.f] at H; clear h
 by_cases c4 : (wrap64 ((wrap64 (a0 * a1_0)) - (wrap64 ((wrap64 (a0 - a1_1)) * a2)))) ≤ 0
 ·rw [if_pos c4] at H
  have c4b0 := decide_eq_true c4; clear c4; simp only [Option.some.injEq, Prod.mk.injEq] at H; obtain ⟨rfl, rfl⟩ := H
  go_enter Tryz.func63, Tryz.ntmps63
  go_wp2_with (first | ((with_reducible refine gate_dst (N := 4) rfl ?_); refine zE 4 #[.int .i64 a1_0, .int .i64 a1_1] 39 ?_; intro gb235 hg w5 hbox hb; have BK235 := Aside0.mk (hbox); have GW235 := zg HB hg; replace HB := zh HB hb; clear hb hbox hg; obtain ⟨_, _, _, _⟩ := zc2 BK235))
  go_ret2
  exact ⟨zt, zy HB⟩
 ·rw [if_neg c4] at H
  have c4b0 := decide_eq_false c4; clear c4; obtain ⟨⟨t236, t237⟩, A7, H⟩ := zB H; (try dsimp only at H); simp only [Option.some.injEq, Prod.mk.injEq] at H; obtain ⟨rfl, rfl⟩ := H
  go_enter Tryz.func63, Tryz.ntmps63
  go_wp2_with (first | ((with_reducible refine gate_dst (N := 4) rfl ?_); refine zE 4 #[.int .i64 a1_0, .int .i64 a1_1] 39 ?_; intro gb235 hg w8 hbox hb; have BK235 := Aside0.mk (hbox); have GW235 := zg HB hg; replace HB := zh HB hb; clear hb hbox hg; obtain ⟨_, _, _, _⟩ := zc2 BK235) | ((with_reducible refine gate_callee (f := 48) rfl ?_); refine zG (some 25) Tryz.func48 #[.int .i64 (wrap64 ((wrap64 (a0 * a1_0)) - (wrap64 ((wrap64 (a0 - a1_1)) * a2)))), .int .i64 a1_0] ?_; (with_reducible refine (spec_clLow.calls k (wrap64 ((wrap64 (a0 * a1_0)) - (wrap64 ((wrap64 (a0 - a1_1)) * a2)))) a1_0 t236 t237 _ A7.out).mono ?_); rintro e w' ⟨rfl, ⟨nd, rfl⟩⟩; refine ⟨_, rfl, ?_⟩))
  go_ret2
  exact ⟨zt, zy HB⟩


/-! ### spec_swHides: function 42 -/
def spec_swHides.f (k : Nat) (a0 : Int) (a1_0 : Int) (a1_1 : Int) (a2_0 : Int) (a2_1 : Int) : Option (Bool) := (spec_swHeight.f k a0 a1_0 a1_1 a2_0).bind fun bt240 => (if a2_0 > a1_0 then (some (decide ((wrap64 (a2_1 * bt240.2)) ≤ bt240.1))) else (some false))
theorem spec_swHides.calls (k : Nat) (a0 : Int) (a1_0 : Int) (a1_1 : Int) (a2_0 : Int) (a2_1 : Int) (r : Bool) (w : World) (h : spec_swHides.f k a0 a1_0 a1_1 a2_0 a2_1 = some r) :
 Calls Tryz.prog 42 #[.int .i64 a0, .agg #[.int .i64 a1_0, .int .i64 a1_1], .agg #[.int .i64 a2_0, .int .i64 a2_1]] w fun e w' => e = .returned (.bool r) ∧ Below w.heap.size w w' := by
 have hu39 := Tryz.underlying39
 have HB := Aside0.mk (Below.refl w.heap.size w)
 have H := h; rw [spec_swHides.f] at H; clear h; obtain ⟨⟨t240, t241⟩, A4, H⟩ := zB H; (try dsimp only at H)
 by_cases c5 : a2_0 > a1_0
 ·rw [if_pos c5] at H
  have c5b0 := decide_eq_true c5; clear c5
  obtain rfl := Option.some.inj H
  go_enter Tryz.func42, Tryz.ntmps42
  go_wp2_with (first | ((with_reducible refine gate_dst (N := 4) rfl ?_); refine zE 4 #[.int .i64 a1_0, .int .i64 a1_1] 39 ?_; intro gb238 hg w6 hbox hb; have BK238 := Aside0.mk (hbox); have GW238 := zg HB hg; replace HB := zh HB hb; clear hb hbox hg) | ((with_reducible refine gate_dst (N := 5) rfl ?_); refine zE 5 #[.int .i64 a2_0, .int .i64 a2_1] 39 ?_; intro gb239 hg w7 hbox hb; have BK239 := Aside0.mk (hbox); have GW239 := zg HB hg; have NB238_239 := zl BK238 hg; have NB239_238 := zr BK238 hg; replace BK238 := zb BK238 hb; replace HB := zh HB hb; clear hb hbox hg; have hnb8 := NB238_239.out; have hnc8 := NB239_238.out; obtain ⟨_, _, _, _⟩ := zc2 BK238; obtain ⟨_, _, _, _⟩ := zc2 BK239) | ((with_reducible refine gate_callee (f := 63) rfl ?_); refine zG (some 14) Tryz.func63 #[.int .i64 a0, .agg #[.int .i64 a1_0, .int .i64 a1_1], .int .i64 a2_0] ?_; (with_reducible refine (spec_swHeight.calls k a0 a1_0 a1_1 a2_0 t240 t241 _ A4.out).mono ?_); rintro e w11 ⟨rfl, hb⟩; refine ⟨_, rfl, ?_⟩; replace BK238 := zb BK238 hb; replace BK239 := zb BK239 hb; replace HB := zh HB hb; clear hb; obtain ⟨_, _, _, _⟩ := zc2 BK239; obtain ⟨_, _, _, _⟩ := zc2 BK238))
  go_ret
  exact ⟨zt, zy HB⟩
 ·rw [if_neg c5] at H
  have c5b0 := decide_eq_false c5; clear c5
  obtain rfl := Option.some.inj H
  go_enter Tryz.func42, Tryz.ntmps42
  go_wp2_with (first | ((with_reducible refine gate_dst (N := 4) rfl ?_); refine zE 4 #[.int .i64 a1_0, .int .i64 a1_1] 39 ?_; intro gb238 hg w14 hbox hb; have BK238 := Aside0.mk (hbox); have GW238 := zg HB hg; replace HB := zh HB hb; clear hb hbox hg) | ((with_reducible refine gate_dst (N := 5) rfl ?_); refine zE 5 #[.int .i64 a2_0, .int .i64 a2_1] 39 ?_; intro gb239 hg w15 hbox hb; have BK239 := Aside0.mk (hbox); have GW239 := zg HB hg; have NB238_239 := zl BK238 hg; have NB239_238 := zr BK238 hg; replace BK238 := zb BK238 hb; replace HB := zh HB hb; clear hb hbox hg; have hnb16 := NB238_239.out; have hnc16 := NB239_238.out; obtain ⟨_, _, _, _⟩ := zc2 BK238; obtain ⟨_, _, _, _⟩ := zc2 BK239) | ((with_reducible refine gate_callee (f := 63) rfl ?_); refine zG (some 14) Tryz.func63 #[.int .i64 a0, .agg #[.int .i64 a1_0, .int .i64 a1_1], .int .i64 a2_0] ?_; (with_reducible refine (spec_swHeight.calls k a0 a1_0 a1_1 a2_0 t240 t241 _ A4.out).mono ?_); rintro e w19 ⟨rfl, hb⟩; refine ⟨_, rfl, ?_⟩; replace BK238 := zb BK238 hb; replace BK239 := zb BK239 hb; replace HB := zh HB hb; clear hb; obtain ⟨_, _, _, _⟩ := zc2 BK239; obtain ⟨_, _, _, _⟩ := zc2 BK238))
  go_ret
  exact ⟨zt, zy HB⟩


/-! ### spec_HiddenPoles: function 9 -/
mutual
def spec_HiddenPoles.l0 : Nat → Int → List (S39) → List Int → List (S39) → Int → Int → Option (List Int × Bool)
 | 0, _, _, _, _, _, _ => none
 | k + 1, x0, x1, x6, x16, x17, x18 => if x18 < x17 then (if 0 ≤ x18 then (if x18 < (x16.length : Int) then (if x18 ≤ (x1.length : Int) then ((some (x1.take (x18 : Int).toNat : List (S39))).bind fun y245 => (spec_HiddenPoles.l1 k x0 x1 x6 x18 false x16 x17 x18 y245 (y245.length : Int) 0 ((rd_T39 x16 x18).f0) ((rd_T39 x16 x18).f1))) else (none)) else (none)) else (none)) else (some (x6, true))
def spec_HiddenPoles.l1 : Nat → Int → List (S39) → List Int → Int → Bool → List (S39) → Int → Int → List (S39) → Int → Int → Int → Int → Option (List Int × Bool)
 | 0, _, _, _, _, _, _, _, _, _, _, _, _, _ => none
 | k + 1, x0, x1, x6, x7, x9, x16, x17, x18, x25, x26, x27, x245000, x245001 => if x27 < x26 then (if 0 ≤ x27 then (if x27 < (x25.length : Int) then (if x9 = true then (spec_HiddenPoles.l1 k x0 x1 x6 x7 true x16 x17 x18 x25 x26 (wrap64 (x27 + 1)) x245000 x245001) else ((spec_swHides.f k x0 ((rd_T39 x25 x27).f0) ((rd_T39 x25 x27).f1) x245000 x245001).bind fun t251 => (spec_HiddenPoles.l1 k x0 x1 x6 x7 t251 x16 x17 x18 x25 x26 (wrap64 (x27 + 1)) x245000 x245001))) else (none)) else (none)) else (if x9 = true then (if x6.length < 17592186044416 then (spec_HiddenPoles.l0 k x0 x1 (x6 ++ [x7]) x16 x17 (wrap64 (x18 + 1))) else (none)) else (spec_HiddenPoles.l0 k x0 x1 x6 x16 x17 (wrap64 (x18 + 1))))
end
def spec_HiddenPoles.f (k : Nat) (a0 : Int) (l1 : List (S39)) : Option (List Int × Bool) := (spec_swGood.f k a0 l1).bind fun t242 => (if t242 = true then (spec_HiddenPoles.l0 k a0 l1 ([] : List Int) l1 (l1.length : Int) 0) else (some (([] : List Int), false)))
theorem spec_HiddenPoles.calls (k : Nat) (a0 : Int) (A1 : Option Addr) (c1 : Nat) (l1 : List (S39)) (r1 : List Int) (r2 : Bool) (w : World) (hr1 : Kd.C k39 w A1 l1.length l1) (hc1 : l1.length ≤ c1) (h : spec_HiddenPoles.f k a0 l1 = some (r1, r2)) :
 Calls Tryz.prog 9 #[.int .i64 a0, .slice A1 l1.length c1] w fun e w' => ∃ v0_ : Value, e = .returned (.tuple #[v0_, .bool r2]) ∧ Kd.R (Kd.int .i64) 3 w' w.heap.size (fun _ => True) v0_ r1 ∧ Below w.heap.size w w' := by
 have hu39 := Tryz.underlying39; have HR1 := Aside0.mk hr1; have HC1 := Aside0.mk hc1; clear hr1 hc1
 have HB := Aside0.mk (Below.refl w.heap.size w)
 have H := h; rw [spec_HiddenPoles.f] at H; clear h; obtain ⟨t242, A3, H⟩ := zB H; (try dsimp only at H)
 by_cases c4 : t242 = true
 ·subst c4
  rw [if_pos rfl] at H; have H' := Aside0.mk H; clear H
  go_enter Tryz.func9, Tryz.ntmps9
  go_wp2_with (first | ((with_reducible refine gate_callee (f := 39) rfl ?_); refine zG (some 14) Tryz.func39 #[.int .i64 a0, .slice A1 l1.length c1] ?_; (with_reducible refine (spec_swGood.calls k a0 _ _ l1 true _ ?side1 ?side2 A3.out).mono ?_); (case side1 => repeat (first | exact HR1.out | (with_reducible refine Kd.C_alloc ?_ _) | (with_reducible refine Kd.C_drewN ?_ _) | (with_reducible refine Kd.C_drew ?_))); (case side2 => exact HC1.out); rintro e w5 ⟨rfl, hb⟩; refine ⟨_, rfl, ?_⟩; replace HB := zh HB hb; clear hb))
  go_loopg [6, 18] k (fun kq v6 v18 w' => ∃ (x6_1 : List Int) (x18_1 : Int), v18 = .int .i64 x18_1 ∧ Aside0 (spec_HiddenPoles.l0 kq a0 l1 x6_1 l1 (l1.length : Int) x18_1 = some (r1, r2)) ∧ Aside0 (kq ≤ k) ∧ Aside0 (Kd.R (Kd.int .i64) 3 w' w.heap.size (fun _ => True) v6 x6_1) ∧ Aside0 (Below w.heap.size w w'))
  case atStart => exact ⟨(([] : List Int)), (0), zu, H', ⟨Nat.le_refl _⟩, ⟨by first | exact Kd.R_nil _ _ _ _ _ | exact Kd.N_nil _ _ _ _ _ | exact Kd.V_nil _ _ _ _ _ | exact Kd.Q_nil _ _ _ _ _ | exact Kd.S_nil _ _ _ _ _⟩, ⟨zy HB⟩⟩
  case round =>
   clear H'
   obtain ⟨x6_1, x18_1, rfl, HA, HK1, HO_6, HB⟩ := hrel
   cases gk with
   | zero => exact absurd HA.out (by simp [spec_HiddenPoles.l0])
   | succ k1 =>
    have H := HA.out; clear HA; simp only [spec_HiddenPoles.l0] at H
    by_cases c6 : x18_1 < (l1.length : Int)
    ·rw [if_pos c6] at H
     have c6b0 := decide_eq_true c6; clear c6
     by_cases c7 : 0 ≤ x18_1
     ·rw [if_pos c7] at H
      have c7b0 := decide_eq_true c7; clear c7
      by_cases c8 : x18_1 < (l1.length : Int)
      ·rw [if_pos c8] at H
       have c8b0 := decide_eq_true c8; clear c8
       have c9b0 := eq_true (of_decide_eq_true zU1_8 : 0 ≤ x18_1)
       by_cases c10 : x18_1 ≤ (l1.length : Int)
       ·rw [if_pos c10] at H
        have c10b0 := eq_true c10; have c10b1 := decide_eq_true c10; clear c10
        obtain ⟨y245, hy245⟩ : ∃ y_ : List (S39), y_ = (l1.take (x18_1 : Int).toNat) := ⟨_, rfl⟩
        replace H : (spec_HiddenPoles.l1 k1 a0 l1 x6_1 x18_1 false l1 (l1.length : Int) x18_1 y245 (y245.length : Int) 0 ((rd_T39 l1 x18_1).f0) ((rd_T39 l1 x18_1).f1)) = some (r1, r2) := by first | (rw [hy245]; with_reducible exact H) | (have H2_ := (Option.bind_some _ _).symm.trans H; rw [hy245]; with_reducible exact H2_) | (have H2_ := (Option.bind_some _ _).symm.trans H; with_reducible exact H2_) | with_reducible exact H | (rw [hy245]; exact H) | exact H
        have Ny245 := Aside0.mk hy245; clear hy245; have H' := Aside0.mk H; clear H
        have p243 : 0 ≤ (x18_1 : Int) := of_decide_eq_true zU1_8
        have q243 : x18_1 < (l1.length : Int) := of_decide_eq_true zU1_8
        obtain ⟨ad243, e243, hx243_0, hx243_1⟩ := at_T39 HR1.out x18_1 p243 q243
        cases e243
        replace hx243_0 := (HB.out.cell (World.block_lt_of_cell? w _ hx243_0)).trans hx243_0
        replace hx243_1 := (HB.out.cell (World.block_lt_of_cell? w _ hx243_1)).trans hx243_1
        replace p243 := eq_true p243; replace q243 := eq_true q243
        go_wp2_with (first | ((with_reducible refine gate_dst (N := 8) rfl ?_); refine zE 8 #[.int .i64 0, .int .i64 0] 39 ?_; intro gb244 hg w11 hbox hb; have BK244 := Aside0.mk (hbox); have GW244 := zg HB hg; replace HO_6 := zo HO_6 hb; replace HB := zh HB hb; clear hb hbox hg; obtain ⟨_, _, _, _⟩ := zc2 BK244) | ((with_reducible refine gate_store (t := 39) (p := 8) rfl ?_); refine store_event (t := 39) (p := 8) (v := ?vo_w13) (w1 := ((w11.setCell ⟨gb244, 0, none⟩ (.int .i64 ((rd_T39 l1 x18_1).f0))).setCell ⟨gb244, 1, none⟩ (.int .i64 ((rd_T39 l1 x18_1).f1)))) ?hg ?ho ?hn ?hr ?_; (case ho => rfl); (case hg => rfl); (case hn => rfl); (case hr => first | (go_simp; done) | (go_simp; rfl)); intro w13 hw; have n0_ : Aside0 (Kd.R (Kd.int .i64) 3 w13 w.heap.size (fun _ => True) u6 x6_1) := ⟨(by rw [hw]; exact (zrp (Kd.R_mono (Kd.R_far (p := ⟨gb244, 1, none⟩) (Kd.R_far (p := ⟨gb244, 0, none⟩) (Kd.R_types HO_6.out BK244.out (by decide)) (fun _ hk => hk.2) (.int .i64 ((rd_T39 l1 x18_1).f0))) (fun _ hk => hk.2) (.int .i64 ((rd_T39 l1 x18_1).f1))) (fun _ hk => trivial))))⟩; have n1_ : Aside0 (w13.heap[gb244]? = some (.cells #[.int .i64 ((rd_T39 l1 x18_1).f0), .int .i64 ((rd_T39 l1 x18_1).f1)] 39 (0, 0))) := ⟨(by rw [hw]; exact (zw BK244))⟩; have n2_ : Aside0 (Below w.heap.size w w13) := ⟨(by rw [hw]; exact (zy HB))⟩; clear hw; clear HO_6; have HO_6 := n0_; clear n0_; clear BK244; have BK244 := n1_; clear n1_; clear HB; have HB := n2_; clear n2_; have q14 : (x18_1 : Int) ≤ ((l1.length : Int) : Int) := of_decide_eq_true zU1_8; obtain ⟨i014, hi014, _, hsz14, _⟩ := info_parts info39; have hroom14 : l1.length ≤ c1 := HC1.out; have hC14 : Kd.C k39 _ (some ad243) l1.length l1 := HR1.out; have hcut14 := cut_to (P := Tryz.prog) 24 39 .i64 Tryz.underlying24 hi014 (some ad243) l1.length c1 x18_1 (of_decide_eq_true zU1_8) q14 hroom14; have hr14 := Kd.C_take (m := (x18_1 : Int).toNat) hC14 (by omega); have hy14 : y245.length = (x18_1 : Int).toNat := (by rw [Ny245.out, List.length_take]; omega); rw [← Ny245.out] at hr14; rw [← hy14] at hcut14; have HR248 := Aside0.mk hr14; have HC248 := Aside0.mk (show y245.length ≤ c1 from by omega); clear hr14 hC14 hroom14 hi014 hsz14; have KY14 := Aside0.mk hy14; clear hy14; replace q14 := eq_true q14))
        go_loopg [9, 27] k1 (fun kq v9 v27 w' => ∃ (x9_2 : Bool) (x27_2 : Int), v9 = .bool x9_2 ∧ v27 = .int .i64 x27_2 ∧ Aside0 (spec_HiddenPoles.l1 kq a0 l1 x6_1 x18_1 x9_2 l1 (l1.length : Int) x18_1 y245 (y245.length : Int) x27_2 ((rd_T39 l1 x18_1).f0) ((rd_T39 l1 x18_1).f1) = some (r1, r2)) ∧ Aside0 (kq ≤ k1) ∧ Aside0 (Kd.R (Kd.int .i64) 3 w' w.heap.size (fun _ => True) u6 x6_1) ∧ Aside0 (w'.heap[gb244]? = some (.cells #[.int .i64 ((rd_T39 l1 x18_1).f0), .int .i64 ((rd_T39 l1 x18_1).f1)] 39 (0, 0))) ∧ Aside0 (Below w.heap.size w w'))
        case atStart => exact ⟨(false), (0), zu, zu, H', ⟨Nat.le_refl _⟩, zp HO_6, zk BK244, ⟨zy HB⟩⟩
        case round =>
         clear H'
         obtain ⟨x9_2, x27_2, rfl, rfl, HA, HK2, HO_6, BK244, HB⟩ := hrel
         cases gk with
         | zero => exact absurd HA.out (by simp [spec_HiddenPoles.l1])
         | succ k2 =>
          have H := HA.out; clear HA; simp only [spec_HiddenPoles.l1] at H
          by_cases c15 : x27_2 < (y245.length : Int)
          ·rw [if_pos c15] at H
           have c15b0 := decide_eq_true c15; clear c15
           by_cases c16 : 0 ≤ x27_2
           ·rw [if_pos c16] at H
            have c16b0 := decide_eq_true c16; clear c16
            by_cases c17 : x27_2 < (y245.length : Int)
            ·rw [if_pos c17] at H
             have c17b0 := decide_eq_true c17; clear c17
             by_cases c18 : x9_2 = true
             ·subst c18
              rw [if_pos rfl] at H; have H' := Aside0.mk H; clear H
              have p249 : 0 ≤ (x27_2 : Int) := of_decide_eq_true zU1_8
              have q249 : x27_2 < (y245.length : Int) := of_decide_eq_true zU1_8
              obtain ⟨ad249, e249, hx249_0, hx249_1⟩ := at_T39 HR248.out x27_2 p249 q249
              obtain rfl : ad243 = ad249 := (by injection e249)
              replace hx249_0 := (HB.out.cell (World.block_lt_of_cell? w _ hx249_0)).trans hx249_0
              replace hx249_1 := (HB.out.cell (World.block_lt_of_cell? w _ hx249_1)).trans hx249_1
              replace p249 := eq_true p249; replace q249 := eq_true q249
              go_wp2_with (first | ((with_reducible refine gate_dst (N := 11) rfl ?_); refine zE 11 #[.int .i64 0, .int .i64 0] 39 ?_; intro gb250 hg w19 hbox hb; have BK250 := Aside0.mk (hbox); have GW250 := zg HB hg; have NB244_250 := zl BK244 hg; have NB250_244 := zr BK244 hg; replace HO_6 := zo HO_6 hb; replace BK244 := zb BK244 hb; replace HB := zh HB hb; clear hb hbox hg; have hnb20 := NB250_244.out; have hnc20 := NB244_250.out; obtain ⟨_, _, _, _⟩ := zc2 BK250))
              go_roundg k2
              case measure => have := HK1.out; have := HK2.out; omega
              case rel => exact ⟨(true), (wrap64 (x27_2 + 1)), zu, zu, H', ⟨by have := HK1.out; have := HK2.out; omega⟩, ⟨by (with_reducible repeat (first | apply Kd.R_alloc | apply Kd.R_drewN | apply Kd.R_drew)); exact Kd.R_mono (Kd.R_far (p := ⟨gb250, 1, none⟩) (Kd.R_far (p := ⟨gb250, 0, none⟩) (Kd.R_types HO_6.out BK250.out (by decide)) (fun _ hk => hk.2) (.int .i64 ((rd_T39 y245 x27_2).f0))) (fun _ hk => hk.2) (.int .i64 ((rd_T39 y245 x27_2).f1))) (fun _ hk => trivial)⟩, zk BK244, ⟨zy HB⟩⟩
             ·replace c18 := Bool.eq_false_iff.mpr c18
              subst c18; rw [if_neg (show ¬ (false = true) by decide)] at H; obtain ⟨t251, A22, H⟩ := zB H; (try dsimp only at H); have H' := Aside0.mk H; clear H
              have p249 : 0 ≤ (x27_2 : Int) := of_decide_eq_true zU1_8
              have q249 : x27_2 < (y245.length : Int) := of_decide_eq_true zU1_8
              obtain ⟨ad249, e249, hx249_0, hx249_1⟩ := at_T39 HR248.out x27_2 p249 q249
              obtain rfl : ad243 = ad249 := (by injection e249)
              replace hx249_0 := (HB.out.cell (World.block_lt_of_cell? w _ hx249_0)).trans hx249_0
              replace hx249_1 := (HB.out.cell (World.block_lt_of_cell? w _ hx249_1)).trans hx249_1
              replace p249 := eq_true p249; replace q249 := eq_true q249
              go_wp2_with (first | ((with_reducible refine gate_dst (N := 11) rfl ?_); refine zE 11 #[.int .i64 0, .int .i64 0] 39 ?_; intro gb250 hg w23 hbox hb; have BK250 := Aside0.mk (hbox); have GW250 := zg HB hg; have NB244_250 := zl BK244 hg; have NB250_244 := zr BK244 hg; replace HO_6 := zo HO_6 hb; replace BK244 := zb BK244 hb; replace HB := zh HB hb; clear hb hbox hg; have hnb24 := NB250_244.out; have hnc24 := NB244_250.out; obtain ⟨_, _, _, _⟩ := zc2 BK250; obtain ⟨_, _, _, _⟩ := zc2 BK244) | (go_at_call 42; (with_reducible refine (spec_swHides.calls k2 a0 ((rd_T39 y245 x27_2).f0) ((rd_T39 y245 x27_2).f1) ((rd_T39 l1 x18_1).f0) ((rd_T39 l1 x18_1).f1) t251 _ A22.out).mono ?_); rintro e w27 ⟨rfl, hb⟩; have n0_ := Aside0.mk (Kd.R_below (zrp (Kd.R_mono (Kd.R_far (p := ⟨gb250, 1, none⟩) (Kd.R_far (p := ⟨gb250, 0, none⟩) (Kd.R_types HO_6.out BK250.out (by decide)) (fun _ hk => hk.2) (.int .i64 ((rd_T39 y245 x27_2).f0))) (fun _ hk => hk.2) (.int .i64 ((rd_T39 y245 x27_2).f1))) (fun _ h_ => h_.1))) hb); have n2_ := Aside0.mk (blk_below (g := gb250) (o := .cells #[.int .i64 ((rd_T39 y245 x27_2).f0), .int .i64 ((rd_T39 y245 x27_2).f1)] 39 (0, 0)) (zw BK250) hb); replace BK244 := zb BK244 hb; replace HB := zh HB hb; clear HO_6; have HO_6 := n0_; clear n0_; clear BK250; have BK250 := n2_; clear n2_; clear hb))
              go_roundg k2
              case measure => have := HK1.out; have := HK2.out; omega
              case rel => exact ⟨(t251), (wrap64 (x27_2 + 1)), zu, zu, H', ⟨by have := HK1.out; have := HK2.out; omega⟩, zp HO_6, zk BK244, ⟨zy HB⟩⟩
            ·rw [if_neg c17] at H
             exact absurd H zU1_9
           ·rw [if_neg c16] at H
            exact absurd H zU1_9
          ·rw [if_neg c15] at H
           have c15b0 := decide_eq_false c15; clear c15
           by_cases c28 : x9_2 = true
           ·subst c28
            rw [if_pos rfl] at H
            by_cases c29 : x6_1.length < 17592186044416
            ·rw [if_pos c29] at H
             have LMc29 := Aside0.mk c29; clear c29
             obtain ⟨y252, hy252⟩ : ∃ y_ : List Int, y_ = (x6_1 ++ [x18_1]) := ⟨_, rfl⟩
             replace H : (spec_HiddenPoles.l0 k2 a0 l1 y252 l1 (l1.length : Int) (wrap64 (x18_1 + 1))) = some (r1, r2) := by first | (rw [hy252]; with_reducible exact H) | (have H2_ := (Option.bind_some _ _).symm.trans H; rw [hy252]; with_reducible exact H2_) | (have H2_ := (Option.bind_some _ _).symm.trans H; with_reducible exact H2_) | with_reducible exact H | (rw [hy252]; exact H) | exact H
             have Ny252 := Aside0.mk hy252; clear hy252; have H' := Aside0.mk H; clear H
             go_wp2_with (first | ((with_reducible refine gate_builtin (b := .append) (xs := #[.tmp 40, .tmp 42]) rfl ?_); at_builtin; refine Kd.R_append (Kd.int .i64) (w0 := w) w.heap.size rfl (.tmp 40) (.tmp 42) 27 3 (.int .i64 0) 8 rfl Tryz.underlying27 info3 rfl (by decide) (by omega) u6 x6_1 x18_1 [.int .i64 x18_1] (fun _ => True) (fun _ => False) rfl rfl ?aP (fun _ hk => hk.elim) ?aF ?aO ?aB ?aS ?aL ?_; (case aP => exact rfl); (case aB => exact (zy HB)); (case aF => exact (fun _ _ => trivial)); (case aO => exact (zs HO_6)); (case aS => exact (below_size (zy HB))); (case aL => have := LMc29.out; omega); intro v253 w30 ho hb hg hat; rw [← Ny252.out] at ho; have n0_ := Aside0.mk (blk_grown (zq BK244) hg (Kd.R_ne HO_6.out BK244.out (by decide))); have HO254 := Aside0.mk (ho); replace HB := Aside0.mk hb; clear HO_6; clear BK244; have BK244 := n0_; clear n0_; clear ho hb hg hat))
             go_roundg k2
             case measure => have := HK1.out; have := HK2.out; omega
             case rel => exact ⟨(y252), (wrap64 (x18_1 + 1)), zu, H', ⟨by have := HK1.out; have := HK2.out; omega⟩, zp HO254, ⟨zy HB⟩⟩
            ·rw [if_neg c29] at H
             exact absurd H zU1_9
           ·replace c28 := Bool.eq_false_iff.mpr c28
            subst c28; rw [if_neg (show ¬ (false = true) by decide)] at H; have H' := Aside0.mk H; clear H
            go_wp2
            go_roundg k2
            case measure => have := HK1.out; have := HK2.out; omega
            case rel => exact ⟨(x6_1), (wrap64 (x18_1 + 1)), zu, H', ⟨by have := HK1.out; have := HK2.out; omega⟩, zp HO_6, ⟨zy HB⟩⟩
       ·rw [if_neg c10] at H
        exact absurd H zU1_9
      ·rw [if_neg c8] at H
       exact absurd H zU1_9
     ·rw [if_neg c7] at H
      exact absurd H zU1_9
    ·rw [if_neg c6] at H
     have c6b0 := decide_eq_false c6; clear c6; simp only [Option.some.injEq, Prod.mk.injEq] at H; obtain ⟨rfl, rfl⟩ := H
     go_wp2
     go_ret2
     exact ⟨_, zt, by (with_reducible repeat (first | apply Kd.R_alloc | apply Kd.R_drewN | apply Kd.R_drew)); exact HO_6.out, zy HB⟩
 ·replace c4 := Bool.eq_false_iff.mpr c4
  subst c4; rw [if_neg (show ¬ (false = true) by decide)] at H; simp only [Option.some.injEq, Prod.mk.injEq] at H; obtain ⟨rfl, rfl⟩ := H
  go_enter Tryz.func9, Tryz.ntmps9
  go_wp2_with (first | ((with_reducible refine gate_callee (f := 39) rfl ?_); refine zG (some 14) Tryz.func39 #[.int .i64 a0, .slice A1 l1.length c1] ?_; (with_reducible refine (spec_swGood.calls k a0 _ _ l1 false _ ?side1 ?side2 A3.out).mono ?_); (case side1 => repeat (first | exact HR1.out | (with_reducible refine Kd.C_alloc ?_ _) | (with_reducible refine Kd.C_drewN ?_ _) | (with_reducible refine Kd.C_drew ?_))); (case side2 => exact HC1.out); rintro e w31 ⟨rfl, hb⟩; refine ⟨_, rfl, ?_⟩; replace HB := zh HB hb; clear hb))
  go_ret2
  exact ⟨_, zt, by first | exact Kd.R_nil _ _ _ _ _ | exact Kd.N_nil _ _ _ _ _ | exact Kd.V_nil _ _ _ _ _ | exact Kd.Q_nil _ _ _ _ _ | exact Kd.S_nil _ _ _ _ _, zy HB⟩


/-! ### impl_LongestShadow: function 10 -/
def impl_LongestShadow.l0 : Nat → Int → List (S39) → Int → List (S39) → Int → Int → Option (Int × Bool)
 | 0, _, _, _, _, _, _ => none
 | k + 1, x0, x1, x6, x14, x15, x16 => if x16 < x15 then (if 0 ≤ x16 then (if x16 < (x14.length : Int) then (if 0 ≤ x6 then (if x6 < (x1.length : Int) then (if (wrap64 ((wrap64 (((rd_T39 x14 x16).f0) * ((rd_T39 x14 x16).f1))) * (wrap64 (x0 - ((rd_T39 x1 x6).f1))))) > (wrap64 ((wrap64 (((rd_T39 x1 x6).f0) * ((rd_T39 x1 x6).f1))) * (wrap64 (x0 - ((rd_T39 x14 x16).f1))))) then (impl_LongestShadow.l0 k x0 x1 x16 x14 x15 (wrap64 (x16 + 1))) else (impl_LongestShadow.l0 k x0 x1 x6 x14 x15 (wrap64 (x16 + 1)))) else (none)) else (none)) else (none)) else (none)) else (some (x6, true))
def impl_LongestShadow.f (k : Nat) (a0 : Int) (l1 : List (S39)) : Option (Int × Bool) := (impl_ArePoles.f k a0 l1).bind fun t255 => (if t255 = true then (impl_LongestShadow.l0 k a0 l1 0 l1 (l1.length : Int) 0) else (some (0, false)))
theorem impl_LongestShadow.calls (k : Nat) (a0 : Int) (A1 : Option Addr) (c1 : Nat) (l1 : List (S39)) (r1 : Int) (r2 : Bool) (w : World) (hr1 : Kd.C k39 w A1 l1.length l1) (hc1 : l1.length ≤ c1) (h : impl_LongestShadow.f k a0 l1 = some (r1, r2)) :
 Calls Tryz.prog 10 #[.int .i64 a0, .slice A1 l1.length c1] w fun e w' => e = .returned (.tuple #[.int .i64 r1, .bool r2]) ∧ Below w.heap.size w w' := by
 have hu39 := Tryz.underlying39; have HR1 := Aside0.mk hr1; have HC1 := Aside0.mk hc1; clear hr1 hc1
 have HB := Aside0.mk (Below.refl w.heap.size w)
 have H := h; rw [impl_LongestShadow.f] at H; clear h; obtain ⟨t255, A3, H⟩ := zB H; (try dsimp only at H)
 by_cases c4 : t255 = true
 ·subst c4
  rw [if_pos rfl] at H; have H' := Aside0.mk H; clear H
  go_enter Tryz.func10, Tryz.ntmps10
  go_wp2_with (first | ((with_reducible refine gate_callee (f := 15) rfl ?_); refine zG (some 12) Tryz.func15 #[.int .i64 a0, .slice A1 l1.length c1] ?_; (with_reducible refine (impl_ArePoles.calls k a0 _ _ l1 true _ ?side1 ?side2 A3.out).mono ?_); (case side1 => repeat (first | exact HR1.out | (with_reducible refine Kd.C_alloc ?_ _) | (with_reducible refine Kd.C_drewN ?_ _) | (with_reducible refine Kd.C_drew ?_))); (case side2 => exact HC1.out); rintro e w5 ⟨rfl, hb⟩; refine ⟨_, rfl, ?_⟩; replace HB := zh HB hb; clear hb))
  go_loopg [6, 16] k (fun kq v6 v16 w' => ∃ (x6_1 : Int) (x16_1 : Int), v6 = .int .i64 x6_1 ∧ v16 = .int .i64 x16_1 ∧ Aside0 (impl_LongestShadow.l0 kq a0 l1 x6_1 l1 (l1.length : Int) x16_1 = some (r1, r2)) ∧ Aside0 (kq ≤ k) ∧ Aside0 (Below w.heap.size w w'))
  case atStart => exact ⟨(0), (0), zu, zu, H', ⟨Nat.le_refl _⟩, ⟨zy HB⟩⟩
  case round =>
   clear H'
   obtain ⟨x6_1, x16_1, rfl, rfl, HA, HK1, HB⟩ := hrel
   cases gk with
   | zero => exact absurd HA.out (by simp [impl_LongestShadow.l0])
   | succ k1 =>
    have H := HA.out; clear HA; simp only [impl_LongestShadow.l0] at H
    by_cases c6 : x16_1 < (l1.length : Int)
    ·rw [if_pos c6] at H
     have c6b0 := decide_eq_true c6; clear c6
     by_cases c7 : 0 ≤ x16_1
     ·rw [if_pos c7] at H
      have c7b0 := decide_eq_true c7; clear c7
      by_cases c8 : x16_1 < (l1.length : Int)
      ·rw [if_pos c8] at H
       have c8b0 := decide_eq_true c8; clear c8
       by_cases c9 : 0 ≤ x6_1
       ·rw [if_pos c9] at H
        have c9b0 := decide_eq_true c9; clear c9
        by_cases c10 : x6_1 < (l1.length : Int)
        ·rw [if_pos c10] at H
         have c10b0 := decide_eq_true c10; clear c10
         by_cases c11 : (wrap64 ((wrap64 (((rd_T39 l1 x16_1).f0) * ((rd_T39 l1 x16_1).f1))) * (wrap64 (a0 - ((rd_T39 l1 x6_1).f1))))) > (wrap64 ((wrap64 (((rd_T39 l1 x6_1).f0) * ((rd_T39 l1 x6_1).f1))) * (wrap64 (a0 - ((rd_T39 l1 x16_1).f1)))))
         ·rw [if_pos c11] at H
          have c11b0 := decide_eq_true c11; clear c11; have H' := Aside0.mk H; clear H
          have p256 : 0 ≤ (x16_1 : Int) := of_decide_eq_true zU1_8
          have q256 : x16_1 < (l1.length : Int) := of_decide_eq_true zU1_8
          obtain ⟨ad256, e256, hx256_0, hx256_1⟩ := at_T39 HR1.out x16_1 p256 q256
          cases e256
          replace hx256_0 := (HB.out.cell (World.block_lt_of_cell? w _ hx256_0)).trans hx256_0
          replace hx256_1 := (HB.out.cell (World.block_lt_of_cell? w _ hx256_1)).trans hx256_1
          replace p256 := eq_true p256; replace q256 := eq_true q256
          go_wp2_with (first | ((with_reducible refine gate_dst (N := 8) rfl ?_); refine zE 8 #[.int .i64 0, .int .i64 0] 39 ?_; intro gb257 hg w12 hbox hb; have BK257 := Aside0.mk (hbox); have GW257 := zg HB hg; replace HB := zh HB hb; clear hb hbox hg; obtain ⟨_, _, _, _⟩ := zc2 BK257; have p258 : 0 ≤ (x6_1 : Int) := of_decide_eq_true zU1_8; have q258 : x6_1 < (l1.length : Int) := of_decide_eq_true zU1_8; obtain ⟨ad258, e258, hx258_0, hx258_1⟩ := at_T39 HR1.out x6_1 p258 q258; obtain rfl : ad256 = ad258 := (by injection e258); have hn258_0 : ad256.block ≠ gb257 := Nat.ne_of_lt (Nat.lt_of_lt_of_le (by have := World.block_lt_of_cell? _ _ hx258_0; first | rwa [add_block] at this | exact this) GW257.out); have hn258_1 : ad256.block ≠ gb257 := Nat.ne_of_lt (Nat.lt_of_lt_of_le (by have := World.block_lt_of_cell? _ _ hx258_0; first | rwa [add_block] at this | exact this) GW257.out); replace hx258_0 := (HB.out.cell (World.block_lt_of_cell? w _ hx258_0)).trans hx258_0; replace hx258_1 := (HB.out.cell (World.block_lt_of_cell? w _ hx258_1)).trans hx258_1; replace hx258_0 := (cell_far (p := ⟨gb257, 0, none⟩) zU1_1 (.int .i64 ((rd_T39 l1 x16_1).f0))).trans hx258_0; replace hx258_1 := (cell_far (p := ⟨gb257, 0, none⟩) zU1_1 (.int .i64 ((rd_T39 l1 x16_1).f0))).trans hx258_1; replace hx258_0 := (cell_far (p := ⟨gb257, 1, none⟩) zU1_2 (.int .i64 ((rd_T39 l1 x16_1).f1))).trans hx258_0; replace hx258_1 := (cell_far (p := ⟨gb257, 1, none⟩) zU1_2 (.int .i64 ((rd_T39 l1 x16_1).f1))).trans hx258_1; clear hn258_0; clear hn258_1; replace p258 := eq_true p258; replace q258 := eq_true q258) | ((with_reducible refine gate_dst (N := 9) rfl ?_); refine zE 9 #[.int .i64 0, .int .i64 0] 39 ?_; intro gb259 hg w14 hbox hb; have n0_ := Aside0.mk (blk_below (g := gb257) (o := .cells #[.int .i64 ((rd_T39 l1 x16_1).f0), .int .i64 ((rd_T39 l1 x16_1).f1)] 39 (0, 0)) (zw BK257) hb); have BK259 := Aside0.mk (hbox); have GW259 := zg HB hg; have NB257_259 := Aside0.mk ((by rw [hg]; exact Nat.ne_of_lt (blk_lt (g := gb257) (o := .cells #[.int .i64 ((rd_T39 l1 x16_1).f0), .int .i64 ((rd_T39 l1 x16_1).f1)] 39 (0, 0)) (zw BK257)) : gb257 ≠ gb259)); have NB259_257 := Aside0.mk ((by rw [hg]; exact Nat.ne_of_gt (blk_lt (g := gb257) (o := .cells #[.int .i64 ((rd_T39 l1 x16_1).f0), .int .i64 ((rd_T39 l1 x16_1).f1)] 39 (0, 0)) (zw BK257)) : gb259 ≠ gb257)); replace HB := zh HB hb; clear BK257; have BK257 := n0_; clear n0_; clear hb hbox hg; have hnb15 := NB259_257.out; have hnc15 := NB257_259.out; obtain ⟨_, _, _, _⟩ := zc2 BK259; obtain ⟨_, _, _, _⟩ := zc2 BK257))
          go_roundg k1
          case measure => have := HK1.out; omega
          case rel => exact ⟨(x16_1), (wrap64 (x16_1 + 1)), zu, zu, H', ⟨by have := HK1.out; omega⟩, ⟨zy HB⟩⟩
         ·rw [if_neg c11] at H
          have c11b0 := decide_eq_false c11; clear c11; have H' := Aside0.mk H; clear H
          have p256 : 0 ≤ (x16_1 : Int) := of_decide_eq_true zU1_8
          have q256 : x16_1 < (l1.length : Int) := of_decide_eq_true zU1_8
          obtain ⟨ad256, e256, hx256_0, hx256_1⟩ := at_T39 HR1.out x16_1 p256 q256
          cases e256
          replace hx256_0 := (HB.out.cell (World.block_lt_of_cell? w _ hx256_0)).trans hx256_0
          replace hx256_1 := (HB.out.cell (World.block_lt_of_cell? w _ hx256_1)).trans hx256_1
          replace p256 := eq_true p256; replace q256 := eq_true q256
          go_wp2_with (first | ((with_reducible refine gate_dst (N := 8) rfl ?_); refine zE 8 #[.int .i64 0, .int .i64 0] 39 ?_; intro gb257 hg w18 hbox hb; have BK257 := Aside0.mk (hbox); have GW257 := zg HB hg; replace HB := zh HB hb; clear hb hbox hg; obtain ⟨_, _, _, _⟩ := zc2 BK257; have p258 : 0 ≤ (x6_1 : Int) := of_decide_eq_true zU1_8; have q258 : x6_1 < (l1.length : Int) := of_decide_eq_true zU1_8; obtain ⟨ad258, e258, hx258_0, hx258_1⟩ := at_T39 HR1.out x6_1 p258 q258; obtain rfl : ad256 = ad258 := (by injection e258); have hn258_0 : ad256.block ≠ gb257 := Nat.ne_of_lt (Nat.lt_of_lt_of_le (by have := World.block_lt_of_cell? _ _ hx258_0; first | rwa [add_block] at this | exact this) GW257.out); have hn258_1 : ad256.block ≠ gb257 := Nat.ne_of_lt (Nat.lt_of_lt_of_le (by have := World.block_lt_of_cell? _ _ hx258_0; first | rwa [add_block] at this | exact this) GW257.out); replace hx258_0 := (HB.out.cell (World.block_lt_of_cell? w _ hx258_0)).trans hx258_0; replace hx258_1 := (HB.out.cell (World.block_lt_of_cell? w _ hx258_1)).trans hx258_1; replace hx258_0 := (cell_far (p := ⟨gb257, 0, none⟩) zU1_1 (.int .i64 ((rd_T39 l1 x16_1).f0))).trans hx258_0; replace hx258_1 := (cell_far (p := ⟨gb257, 0, none⟩) zU1_1 (.int .i64 ((rd_T39 l1 x16_1).f0))).trans hx258_1; replace hx258_0 := (cell_far (p := ⟨gb257, 1, none⟩) zU1_2 (.int .i64 ((rd_T39 l1 x16_1).f1))).trans hx258_0; replace hx258_1 := (cell_far (p := ⟨gb257, 1, none⟩) zU1_2 (.int .i64 ((rd_T39 l1 x16_1).f1))).trans hx258_1; clear hn258_0; clear hn258_1; replace p258 := eq_true p258; replace q258 := eq_true q258) | ((with_reducible refine gate_dst (N := 9) rfl ?_); refine zE 9 #[.int .i64 0, .int .i64 0] 39 ?_; intro gb259 hg w20 hbox hb; have n0_ := Aside0.mk (blk_below (g := gb257) (o := .cells #[.int .i64 ((rd_T39 l1 x16_1).f0), .int .i64 ((rd_T39 l1 x16_1).f1)] 39 (0, 0)) (zw BK257) hb); have BK259 := Aside0.mk (hbox); have GW259 := zg HB hg; have NB257_259 := Aside0.mk ((by rw [hg]; exact Nat.ne_of_lt (blk_lt (g := gb257) (o := .cells #[.int .i64 ((rd_T39 l1 x16_1).f0), .int .i64 ((rd_T39 l1 x16_1).f1)] 39 (0, 0)) (zw BK257)) : gb257 ≠ gb259)); have NB259_257 := Aside0.mk ((by rw [hg]; exact Nat.ne_of_gt (blk_lt (g := gb257) (o := .cells #[.int .i64 ((rd_T39 l1 x16_1).f0), .int .i64 ((rd_T39 l1 x16_1).f1)] 39 (0, 0)) (zw BK257)) : gb259 ≠ gb257)); replace HB := zh HB hb; clear BK257; have BK257 := n0_; clear n0_; clear hb hbox hg; have hnb21 := NB259_257.out; have hnc21 := NB257_259.out; obtain ⟨_, _, _, _⟩ := zc2 BK259; obtain ⟨_, _, _, _⟩ := zc2 BK257))
          go_roundg k1
          case measure => have := HK1.out; omega
          case rel => exact ⟨(x6_1), (wrap64 (x16_1 + 1)), zu, zu, H', ⟨by have := HK1.out; omega⟩, ⟨zy HB⟩⟩
        ·rw [if_neg c10] at H
         exact absurd H zU1_9
       ·rw [if_neg c9] at H
        exact absurd H zU1_9
      ·rw [if_neg c8] at H
       exact absurd H zU1_9
     ·rw [if_neg c7] at H
      exact absurd H zU1_9
    ·rw [if_neg c6] at H
     have c6b0 := decide_eq_false c6; clear c6; simp only [Option.some.injEq, Prod.mk.injEq] at H; obtain ⟨rfl, rfl⟩ := H
     go_wp2
     go_ret2
     exact ⟨zt, zy HB⟩
 ·replace c4 := Bool.eq_false_iff.mpr c4
  subst c4; rw [if_neg (show ¬ (false = true) by decide)] at H; simp only [Option.some.injEq, Prod.mk.injEq] at H; obtain ⟨rfl, rfl⟩ := H
  go_enter Tryz.func10, Tryz.ntmps10
  go_wp2_with (first | ((with_reducible refine gate_callee (f := 15) rfl ?_); refine zG (some 12) Tryz.func15 #[.int .i64 a0, .slice A1 l1.length c1] ?_; (with_reducible refine (impl_ArePoles.calls k a0 _ _ l1 false _ ?side1 ?side2 A3.out).mono ?_); (case side1 => repeat (first | exact HR1.out | (with_reducible refine Kd.C_alloc ?_ _) | (with_reducible refine Kd.C_drewN ?_ _) | (with_reducible refine Kd.C_drew ?_))); (case side2 => exact HC1.out); rintro e w24 ⟨rfl, hb⟩; refine ⟨_, rfl, ?_⟩; replace HB := zh HB hb; clear hb))
  go_ret2
  exact ⟨zt, zy HB⟩


/-! ### spec_LongestShadow: function 11 -/
def spec_LongestShadow.l0 : Nat → Int → List (S39) → Int → List (S39) → Int → Int → Option (Int × Bool)
 | 0, _, _, _, _, _, _ => none
 | k + 1, x0, x1, x6, x14, x15, x16 => if x16 < x15 then (if 0 ≤ x16 then (if x16 < (x14.length : Int) then (if 0 ≤ x6 then (if x6 < (x1.length : Int) then (if (wrap64 ((wrap64 (((rd_T39 x14 x16).f0) * ((rd_T39 x14 x16).f1))) * (wrap64 (x0 - ((rd_T39 x1 x6).f1))))) > (wrap64 ((wrap64 (((rd_T39 x1 x6).f0) * ((rd_T39 x1 x6).f1))) * (wrap64 (x0 - ((rd_T39 x14 x16).f1))))) then (spec_LongestShadow.l0 k x0 x1 x16 x14 x15 (wrap64 (x16 + 1))) else (spec_LongestShadow.l0 k x0 x1 x6 x14 x15 (wrap64 (x16 + 1)))) else (none)) else (none)) else (none)) else (none)) else (some (x6, true))
def spec_LongestShadow.f (k : Nat) (a0 : Int) (l1 : List (S39)) : Option (Int × Bool) := (spec_swGood.f k a0 l1).bind fun t260 => (if t260 = true then (spec_LongestShadow.l0 k a0 l1 0 l1 (l1.length : Int) 0) else (some (0, false)))
theorem spec_LongestShadow.calls (k : Nat) (a0 : Int) (A1 : Option Addr) (c1 : Nat) (l1 : List (S39)) (r1 : Int) (r2 : Bool) (w : World) (hr1 : Kd.C k39 w A1 l1.length l1) (hc1 : l1.length ≤ c1) (h : spec_LongestShadow.f k a0 l1 = some (r1, r2)) :
 Calls Tryz.prog 11 #[.int .i64 a0, .slice A1 l1.length c1] w fun e w' => e = .returned (.tuple #[.int .i64 r1, .bool r2]) ∧ Below w.heap.size w w' := by
 have hu39 := Tryz.underlying39; have HR1 := Aside0.mk hr1; have HC1 := Aside0.mk hc1; clear hr1 hc1
 have HB := Aside0.mk (Below.refl w.heap.size w)
 have H := h; rw [spec_LongestShadow.f] at H; clear h; obtain ⟨t260, A3, H⟩ := zB H; (try dsimp only at H)
 by_cases c4 : t260 = true
 ·subst c4
  rw [if_pos rfl] at H; have H' := Aside0.mk H; clear H
  go_enter Tryz.func11, Tryz.ntmps11
  go_wp2_with (first | ((with_reducible refine gate_callee (f := 39) rfl ?_); refine zG (some 12) Tryz.func39 #[.int .i64 a0, .slice A1 l1.length c1] ?_; (with_reducible refine (spec_swGood.calls k a0 _ _ l1 true _ ?side1 ?side2 A3.out).mono ?_); (case side1 => repeat (first | exact HR1.out | (with_reducible refine Kd.C_alloc ?_ _) | (with_reducible refine Kd.C_drewN ?_ _) | (with_reducible refine Kd.C_drew ?_))); (case side2 => exact HC1.out); rintro e w5 ⟨rfl, hb⟩; refine ⟨_, rfl, ?_⟩; replace HB := zh HB hb; clear hb))
  go_loopg [6, 16] k (fun kq v6 v16 w' => ∃ (x6_1 : Int) (x16_1 : Int), v6 = .int .i64 x6_1 ∧ v16 = .int .i64 x16_1 ∧ Aside0 (spec_LongestShadow.l0 kq a0 l1 x6_1 l1 (l1.length : Int) x16_1 = some (r1, r2)) ∧ Aside0 (kq ≤ k) ∧ Aside0 (Below w.heap.size w w'))
  case atStart => exact ⟨(0), (0), zu, zu, H', ⟨Nat.le_refl _⟩, ⟨zy HB⟩⟩
  case round =>
   clear H'
   obtain ⟨x6_1, x16_1, rfl, rfl, HA, HK1, HB⟩ := hrel
   cases gk with
   | zero => exact absurd HA.out (by simp [spec_LongestShadow.l0])
   | succ k1 =>
    have H := HA.out; clear HA; simp only [spec_LongestShadow.l0] at H
    by_cases c6 : x16_1 < (l1.length : Int)
    ·rw [if_pos c6] at H
     have c6b0 := decide_eq_true c6; clear c6
     by_cases c7 : 0 ≤ x16_1
     ·rw [if_pos c7] at H
      have c7b0 := decide_eq_true c7; clear c7
      by_cases c8 : x16_1 < (l1.length : Int)
      ·rw [if_pos c8] at H
       have c8b0 := decide_eq_true c8; clear c8
       by_cases c9 : 0 ≤ x6_1
       ·rw [if_pos c9] at H
        have c9b0 := decide_eq_true c9; clear c9
        by_cases c10 : x6_1 < (l1.length : Int)
        ·rw [if_pos c10] at H
         have c10b0 := decide_eq_true c10; clear c10
         by_cases c11 : (wrap64 ((wrap64 (((rd_T39 l1 x16_1).f0) * ((rd_T39 l1 x16_1).f1))) * (wrap64 (a0 - ((rd_T39 l1 x6_1).f1))))) > (wrap64 ((wrap64 (((rd_T39 l1 x6_1).f0) * ((rd_T39 l1 x6_1).f1))) * (wrap64 (a0 - ((rd_T39 l1 x16_1).f1)))))
         ·rw [if_pos c11] at H
          have c11b0 := decide_eq_true c11; clear c11; have H' := Aside0.mk H; clear H
          have p261 : 0 ≤ (x16_1 : Int) := of_decide_eq_true zU1_8
          have q261 : x16_1 < (l1.length : Int) := of_decide_eq_true zU1_8
          obtain ⟨ad261, e261, hx261_0, hx261_1⟩ := at_T39 HR1.out x16_1 p261 q261
          cases e261
          replace hx261_0 := (HB.out.cell (World.block_lt_of_cell? w _ hx261_0)).trans hx261_0
          replace hx261_1 := (HB.out.cell (World.block_lt_of_cell? w _ hx261_1)).trans hx261_1
          replace p261 := eq_true p261; replace q261 := eq_true q261
          go_wp2_with (first | ((with_reducible refine gate_dst (N := 8) rfl ?_); refine zE 8 #[.int .i64 0, .int .i64 0] 39 ?_; intro gb262 hg w12 hbox hb; have BK262 := Aside0.mk (hbox); have GW262 := zg HB hg; replace HB := zh HB hb; clear hb hbox hg; obtain ⟨_, _, _, _⟩ := zc2 BK262; have p263 : 0 ≤ (x6_1 : Int) := of_decide_eq_true zU1_8; have q263 : x6_1 < (l1.length : Int) := of_decide_eq_true zU1_8; obtain ⟨ad263, e263, hx263_0, hx263_1⟩ := at_T39 HR1.out x6_1 p263 q263; obtain rfl : ad261 = ad263 := (by injection e263); have hn263_0 : ad261.block ≠ gb262 := Nat.ne_of_lt (Nat.lt_of_lt_of_le (by have := World.block_lt_of_cell? _ _ hx263_0; first | rwa [add_block] at this | exact this) GW262.out); have hn263_1 : ad261.block ≠ gb262 := Nat.ne_of_lt (Nat.lt_of_lt_of_le (by have := World.block_lt_of_cell? _ _ hx263_0; first | rwa [add_block] at this | exact this) GW262.out); replace hx263_0 := (HB.out.cell (World.block_lt_of_cell? w _ hx263_0)).trans hx263_0; replace hx263_1 := (HB.out.cell (World.block_lt_of_cell? w _ hx263_1)).trans hx263_1; replace hx263_0 := (cell_far (p := ⟨gb262, 0, none⟩) zU1_3 (.int .i64 ((rd_T39 l1 x16_1).f0))).trans hx263_0; replace hx263_1 := (cell_far (p := ⟨gb262, 0, none⟩) zU1_3 (.int .i64 ((rd_T39 l1 x16_1).f0))).trans hx263_1; replace hx263_0 := (cell_far (p := ⟨gb262, 1, none⟩) zU1_4 (.int .i64 ((rd_T39 l1 x16_1).f1))).trans hx263_0; replace hx263_1 := (cell_far (p := ⟨gb262, 1, none⟩) zU1_4 (.int .i64 ((rd_T39 l1 x16_1).f1))).trans hx263_1; clear hn263_0; clear hn263_1; replace p263 := eq_true p263; replace q263 := eq_true q263) | ((with_reducible refine gate_dst (N := 9) rfl ?_); refine zE 9 #[.int .i64 0, .int .i64 0] 39 ?_; intro gb264 hg w14 hbox hb; have n0_ := Aside0.mk (blk_below (g := gb262) (o := .cells #[.int .i64 ((rd_T39 l1 x16_1).f0), .int .i64 ((rd_T39 l1 x16_1).f1)] 39 (0, 0)) (zw BK262) hb); have BK264 := Aside0.mk (hbox); have GW264 := zg HB hg; have NB262_264 := Aside0.mk ((by rw [hg]; exact Nat.ne_of_lt (blk_lt (g := gb262) (o := .cells #[.int .i64 ((rd_T39 l1 x16_1).f0), .int .i64 ((rd_T39 l1 x16_1).f1)] 39 (0, 0)) (zw BK262)) : gb262 ≠ gb264)); have NB264_262 := Aside0.mk ((by rw [hg]; exact Nat.ne_of_gt (blk_lt (g := gb262) (o := .cells #[.int .i64 ((rd_T39 l1 x16_1).f0), .int .i64 ((rd_T39 l1 x16_1).f1)] 39 (0, 0)) (zw BK262)) : gb264 ≠ gb262)); replace HB := zh HB hb; clear BK262; have BK262 := n0_; clear n0_; clear hb hbox hg; have hnb15 := NB264_262.out; have hnc15 := NB262_264.out; obtain ⟨_, _, _, _⟩ := zc2 BK264; obtain ⟨_, _, _, _⟩ := zc2 BK262))
          go_roundg k1
          case measure => have := HK1.out; omega
          case rel => exact ⟨(x16_1), (wrap64 (x16_1 + 1)), zu, zu, H', ⟨by have := HK1.out; omega⟩, ⟨zy HB⟩⟩
         ·rw [if_neg c11] at H
          have c11b0 := decide_eq_false c11; clear c11; have H' := Aside0.mk H; clear H
          have p261 : 0 ≤ (x16_1 : Int) := of_decide_eq_true zU1_8
          have q261 : x16_1 < (l1.length : Int) := of_decide_eq_true zU1_8
          obtain ⟨ad261, e261, hx261_0, hx261_1⟩ := at_T39 HR1.out x16_1 p261 q261
          cases e261
          replace hx261_0 := (HB.out.cell (World.block_lt_of_cell? w _ hx261_0)).trans hx261_0
          replace hx261_1 := (HB.out.cell (World.block_lt_of_cell? w _ hx261_1)).trans hx261_1
          replace p261 := eq_true p261; replace q261 := eq_true q261
          go_wp2_with (first | ((with_reducible refine gate_dst (N := 8) rfl ?_); refine zE 8 #[.int .i64 0, .int .i64 0] 39 ?_; intro gb262 hg w18 hbox hb; have BK262 := Aside0.mk (hbox); have GW262 := zg HB hg; replace HB := zh HB hb; clear hb hbox hg; obtain ⟨_, _, _, _⟩ := zc2 BK262; have p263 : 0 ≤ (x6_1 : Int) := of_decide_eq_true zU1_8; have q263 : x6_1 < (l1.length : Int) := of_decide_eq_true zU1_8; obtain ⟨ad263, e263, hx263_0, hx263_1⟩ := at_T39 HR1.out x6_1 p263 q263; obtain rfl : ad261 = ad263 := (by injection e263); have hn263_0 : ad261.block ≠ gb262 := Nat.ne_of_lt (Nat.lt_of_lt_of_le (by have := World.block_lt_of_cell? _ _ hx263_0; first | rwa [add_block] at this | exact this) GW262.out); have hn263_1 : ad261.block ≠ gb262 := Nat.ne_of_lt (Nat.lt_of_lt_of_le (by have := World.block_lt_of_cell? _ _ hx263_0; first | rwa [add_block] at this | exact this) GW262.out); replace hx263_0 := (HB.out.cell (World.block_lt_of_cell? w _ hx263_0)).trans hx263_0; replace hx263_1 := (HB.out.cell (World.block_lt_of_cell? w _ hx263_1)).trans hx263_1; replace hx263_0 := (cell_far (p := ⟨gb262, 0, none⟩) zU1_3 (.int .i64 ((rd_T39 l1 x16_1).f0))).trans hx263_0; replace hx263_1 := (cell_far (p := ⟨gb262, 0, none⟩) zU1_3 (.int .i64 ((rd_T39 l1 x16_1).f0))).trans hx263_1; replace hx263_0 := (cell_far (p := ⟨gb262, 1, none⟩) zU1_4 (.int .i64 ((rd_T39 l1 x16_1).f1))).trans hx263_0; replace hx263_1 := (cell_far (p := ⟨gb262, 1, none⟩) zU1_4 (.int .i64 ((rd_T39 l1 x16_1).f1))).trans hx263_1; clear hn263_0; clear hn263_1; replace p263 := eq_true p263; replace q263 := eq_true q263) | ((with_reducible refine gate_dst (N := 9) rfl ?_); refine zE 9 #[.int .i64 0, .int .i64 0] 39 ?_; intro gb264 hg w20 hbox hb; have n0_ := Aside0.mk (blk_below (g := gb262) (o := .cells #[.int .i64 ((rd_T39 l1 x16_1).f0), .int .i64 ((rd_T39 l1 x16_1).f1)] 39 (0, 0)) (zw BK262) hb); have BK264 := Aside0.mk (hbox); have GW264 := zg HB hg; have NB262_264 := Aside0.mk ((by rw [hg]; exact Nat.ne_of_lt (blk_lt (g := gb262) (o := .cells #[.int .i64 ((rd_T39 l1 x16_1).f0), .int .i64 ((rd_T39 l1 x16_1).f1)] 39 (0, 0)) (zw BK262)) : gb262 ≠ gb264)); have NB264_262 := Aside0.mk ((by rw [hg]; exact Nat.ne_of_gt (blk_lt (g := gb262) (o := .cells #[.int .i64 ((rd_T39 l1 x16_1).f0), .int .i64 ((rd_T39 l1 x16_1).f1)] 39 (0, 0)) (zw BK262)) : gb264 ≠ gb262)); replace HB := zh HB hb; clear BK262; have BK262 := n0_; clear n0_; clear hb hbox hg; have hnb21 := NB264_262.out; have hnc21 := NB262_264.out; obtain ⟨_, _, _, _⟩ := zc2 BK264; obtain ⟨_, _, _, _⟩ := zc2 BK262))
          go_roundg k1
          case measure => have := HK1.out; omega
          case rel => exact ⟨(x6_1), (wrap64 (x16_1 + 1)), zu, zu, H', ⟨by have := HK1.out; omega⟩, ⟨zy HB⟩⟩
        ·rw [if_neg c10] at H
         exact absurd H zU1_9
       ·rw [if_neg c9] at H
        exact absurd H zU1_9
      ·rw [if_neg c8] at H
       exact absurd H zU1_9
     ·rw [if_neg c7] at H
      exact absurd H zU1_9
    ·rw [if_neg c6] at H
     have c6b0 := decide_eq_false c6; clear c6; simp only [Option.some.injEq, Prod.mk.injEq] at H; obtain ⟨rfl, rfl⟩ := H
     go_wp2
     go_ret2
     exact ⟨zt, zy HB⟩
 ·replace c4 := Bool.eq_false_iff.mpr c4
  subst c4; rw [if_neg (show ¬ (false = true) by decide)] at H; simp only [Option.some.injEq, Prod.mk.injEq] at H; obtain ⟨rfl, rfl⟩ := H
  go_enter Tryz.func11, Tryz.ntmps11
  go_wp2_with (first | ((with_reducible refine gate_callee (f := 39) rfl ?_); refine zG (some 12) Tryz.func39 #[.int .i64 a0, .slice A1 l1.length c1] ?_; (with_reducible refine (spec_swGood.calls k a0 _ _ l1 false _ ?side1 ?side2 A3.out).mono ?_); (case side1 => repeat (first | exact HR1.out | (with_reducible refine Kd.C_alloc ?_ _) | (with_reducible refine Kd.C_drewN ?_ _) | (with_reducible refine Kd.C_drew ?_))); (case side2 => exact HC1.out); rintro e w24 ⟨rfl, hb⟩; refine ⟨_, rfl, ?_⟩; replace HB := zh HB hb; clear hb))
  go_ret2
  exact ⟨zt, zy HB⟩


/-! ### impl_gcd: function 66 -/
def impl_gcd.l0 : Nat → Int → Int → Option (Int)
 | 0, _, _ => none
 | k + 1, x0, x1 => if x1 = 0 then (some (mx x0 (wrap64 (-x0)))) else (impl_gcd.l0 k x1 (Int.tmod x0 x1))
def impl_gcd.f (k : Nat) (a0 : Int) (a1 : Int) : Option (Int) := impl_gcd.l0 k a0 a1
theorem impl_gcd.calls (k : Nat) (a0 : Int) (a1 : Int) (r : Int) (w : World) (h : impl_gcd.f k a0 a1 = some r) :
 Calls Tryz.prog 66 #[.int .i64 a0, .int .i64 a1] w fun e w' => e = .returned (.int .i64 r) ∧ Below w.heap.size w w' := by
 have HB := Aside0.mk (Below.refl w.heap.size w)
 have H := h; rw [impl_gcd.f] at H; clear h; have H' := Aside0.mk H; clear H
 go_enter Tryz.func66, Tryz.ntmps66
 go_wp2
 repeat (go_quiet (fail); try go_wp2)
 go_loopg [0, 1] k (fun kq v0 v1 w' => ∃ (x0_1 : Int) (x1_1 : Int), v0 = .int .i64 x0_1 ∧ v1 = .int .i64 x1_1 ∧ Aside0 (impl_gcd.l0 kq x0_1 x1_1 = some r) ∧ Aside0 (kq ≤ k) ∧ Aside0 (Below w.heap.size w w'))
 case atStart => exact ⟨(a0), (a1), zu, zu, H', ⟨Nat.le_refl _⟩, ⟨zy HB⟩⟩
 case round =>
  clear H'
  obtain ⟨x0_1, x1_1, rfl, rfl, HA, HK1, HB⟩ := hrel
  cases gk with
  | zero => exact absurd HA.out (by simp [impl_gcd.l0])
  | succ k1 =>
   have H := HA.out; clear HA; simp only [impl_gcd.l0] at H
   by_cases c3 : x1_1 = 0
   ·rw [if_pos c3] at H
    have c3b0 := beq_iff_eq.mpr c3; have c3b1 := bne_eq_false_iff_eq.mpr c3; clear c3
    obtain ⟨ji4, hji4⟩ : ∃ j_ : Int, (mx x0_1 (wrap64 (-x0_1))) = j_ := ⟨_, rfl⟩
    replace H : (some ji4) = some r := by first | (rw [hji4] at H; exact H) | (simp only [hji4] at H ⊢; exact H)
    have hji4_ : (if x0_1 < (wrap64 (-x0_1)) then (wrap64 (-x0_1)) else x0_1) = ji4 := hji4
    obtain rfl := Option.some.inj H
    go_wp2
    repeat (go_quiet (fail); try go_wp2)
    go_ret
    exact ⟨by first | rfl | (simp [errW_none, errW_some] <;> rfl) | (simp only [← hji4]; first | rfl | (simp [errW_none, errW_some] <;> rfl)) | (simp [*, errW_none, errW_some] <;> rfl), zy HB⟩
   ·rw [if_neg c3] at H
    have c3b0 := beq_eq_false_iff_ne.mpr c3; have c3b1 := bne_iff_ne.mpr c3; have H' := Aside0.mk H; clear H
    go_wp2
    repeat (go_quiet (fail); try go_wp2)
    go_roundg k1
    case measure => have := HK1.out; omega
    case rel => exact ⟨(x1_1), (Int.tmod x0_1 x1_1), zu, zu, H', ⟨by have := HK1.out; omega⟩, ⟨zy HB⟩⟩


/-! ### impl_fraction: function 45 -/
def impl_fraction.f (k : Nat) (a0 : Int) (a1 : Int) : Option (Int × Int × Bool) := (impl_gcd.f k a0 a1).bind fun t265 => (if t265 = 0 then (none) else (some (wrap64 (Int.tdiv a0 t265), wrap64 (Int.tdiv a1 t265), true)))
theorem impl_fraction.calls (k : Nat) (a0 : Int) (a1 : Int) (r1 : Int) (r2 : Int) (r3 : Bool) (w : World) (h : impl_fraction.f k a0 a1 = some (r1, r2, r3)) :
 Calls Tryz.prog 45 #[.int .i64 a0, .int .i64 a1] w fun e w' => e = .returned (.tuple #[.int .i64 r1, .int .i64 r2, .bool r3]) ∧ Below w.heap.size w w' := by
 have HB := Aside0.mk (Below.refl w.heap.size w)
 have H := h; rw [impl_fraction.f] at H; clear h; obtain ⟨t265, A3, H⟩ := zB H; (try dsimp only at H)
 by_cases c4 : t265 = 0
 ·rw [if_pos c4] at H
  exact absurd H zU1_9
 ·rw [if_neg c4] at H
  have c4b0 := beq_eq_false_iff_ne.mpr c4; have c4b1 := bne_iff_ne.mpr c4; simp only [Option.some.injEq, Prod.mk.injEq] at H; obtain ⟨rfl, rfl, rfl⟩ := H
  go_enter Tryz.func45, Tryz.ntmps45
  have zz_ := trivial
  repeat ((first | clear zz_ | go_quiet (fail)); go_wp2_with (first | (go_at_call 66; (with_reducible refine (impl_gcd.calls k a0 a1 t265 _ A3.out).mono ?_); rintro e w5 ⟨rfl, hb⟩; replace HB := zh HB hb; clear hb)))
  go_ret3
  exact ⟨zt, zy HB⟩


/-! ### impl_ShadowEnd: function 20 -/
def impl_ShadowEnd.f (k : Nat) (a0 : Int) (a1_0 : Int) (a1_1 : Int) : Option (Int × Int × Bool) := (impl_isPoleOf.f a0 a1_0 a1_1).bind fun t267 => (if t267 = true then ((impl_fraction.f k (wrap64 (a1_0 * a0)) (wrap64 (a0 - a1_1))).bind fun bt268 => (some (bt268.1, bt268.2.1, bt268.2.2))) else (some (0, 0, false)))
theorem impl_ShadowEnd.calls (k : Nat) (a0 : Int) (a1_0 : Int) (a1_1 : Int) (r1 : Int) (r2 : Int) (r3 : Bool) (w : World) (h : impl_ShadowEnd.f k a0 a1_0 a1_1 = some (r1, r2, r3)) :
 Calls Tryz.prog 20 #[.int .i64 a0, .agg #[.int .i64 a1_0, .int .i64 a1_1]] w fun e w' => e = .returned (.tuple #[.int .i64 r1, .int .i64 r2, .bool r3]) ∧ Below w.heap.size w w' := by
 have hu39 := Tryz.underlying39
 have HB := Aside0.mk (Below.refl w.heap.size w)
 have H := h; rw [impl_ShadowEnd.f] at H; clear h; obtain ⟨t267, A3, H⟩ := zB H; (try dsimp only at H)
 by_cases c4 : t267 = true
 ·subst c4
  rw [if_pos rfl] at H; obtain ⟨⟨t268, t269, t270⟩, A5, H⟩ := zB H; (try dsimp only at H); simp only [Option.some.injEq, Prod.mk.injEq] at H; obtain ⟨rfl, rfl, rfl⟩ := H
  go_enter Tryz.func20, Tryz.ntmps20
  go_wp2_with (first | ((with_reducible refine gate_dst (N := 3) rfl ?_); refine zE 3 #[.int .i64 a1_0, .int .i64 a1_1] 39 ?_; intro gb266 hg w6 hbox hb; have BK266 := Aside0.mk (hbox); have GW266 := zg HB hg; replace HB := zh HB hb; clear hb hbox hg; obtain ⟨_, _, _, _⟩ := zc2 BK266) | ((with_reducible refine gate_callee (f := 44) rfl ?_); refine zG (some 9) Tryz.func44 #[.int .i64 a0, .agg #[.int .i64 a1_0, .int .i64 a1_1]] ?_; (with_reducible refine (impl_isPoleOf.calls a0 a1_0 a1_1 true _ A3.out).mono ?_); rintro e w8 ⟨rfl, hb⟩; refine ⟨_, rfl, ?_⟩; replace BK266 := zb BK266 hb; replace HB := zh HB hb; clear hb; obtain ⟨_, _, _, _⟩ := zc2 BK266) | ((with_reducible refine gate_callee (f := 45) rfl ?_); refine zG (some 19) Tryz.func45 #[.int .i64 (wrap64 (a1_0 * a0)), .int .i64 (wrap64 (a0 - a1_1))] ?_; (with_reducible refine (impl_fraction.calls k (wrap64 (a1_0 * a0)) (wrap64 (a0 - a1_1)) t268 t269 t270 _ A5.out).mono ?_); rintro e w10 ⟨rfl, hb⟩; refine ⟨_, rfl, ?_⟩; replace BK266 := zb BK266 hb; replace HB := zh HB hb; clear hb))
  go_ret3
  exact ⟨zt, zy HB⟩
 ·replace c4 := Bool.eq_false_iff.mpr c4
  subst c4; rw [if_neg (show ¬ (false = true) by decide)] at H; simp only [Option.some.injEq, Prod.mk.injEq] at H; obtain ⟨rfl, rfl, rfl⟩ := H
  go_enter Tryz.func20, Tryz.ntmps20
  go_wp2_with (first | ((with_reducible refine gate_dst (N := 3) rfl ?_); refine zE 3 #[.int .i64 a1_0, .int .i64 a1_1] 39 ?_; intro gb266 hg w11 hbox hb; have BK266 := Aside0.mk (hbox); have GW266 := zg HB hg; replace HB := zh HB hb; clear hb hbox hg; obtain ⟨_, _, _, _⟩ := zc2 BK266) | ((with_reducible refine gate_callee (f := 44) rfl ?_); refine zG (some 9) Tryz.func44 #[.int .i64 a0, .agg #[.int .i64 a1_0, .int .i64 a1_1]] ?_; (with_reducible refine (impl_isPoleOf.calls a0 a1_0 a1_1 false _ A3.out).mono ?_); rintro e w13 ⟨rfl, hb⟩; refine ⟨_, rfl, ?_⟩; replace BK266 := zb BK266 hb; replace HB := zh HB hb; clear hb))
  go_ret3
  exact ⟨zt, zy HB⟩


/-! ### impl_FarthestDark: function 12 -/
def impl_FarthestDark.l0 : Nat → Int → List (S39) → Int → Int → Int → Int → Option (Int × Int × Bool)
 | 0, _, _, _, _, _, _ => none
 | k + 1, x0, x17, x18, x19, x274000, x274001 => if x19 < x18 then (if 0 ≤ x19 then (if x19 < (x17.length : Int) then (if (wrap64 (((rd_T39 x17 x19).f0) * (wrap64 (x0 - x274001)))) > (wrap64 (x274000 * (wrap64 (x0 - ((rd_T39 x17 x19).f1))))) then (impl_FarthestDark.l0 k x0 x17 x18 (wrap64 (x19 + 1)) ((rd_T39 x17 x19).f0) ((rd_T39 x17 x19).f1)) else (impl_FarthestDark.l0 k x0 x17 x18 (wrap64 (x19 + 1)) x274000 x274001)) else (none)) else (none)) else ((impl_ShadowEnd.f k x0 x274000 x274001).bind fun bt276 => (some (bt276.1, bt276.2.1, bt276.2.2)))
def impl_FarthestDark.f (k : Nat) (a0 : Int) (l1 : List (S39)) : Option (Int × Int × Bool) := (impl_ArePoles.f k a0 l1).bind fun t271 => (if t271 = true then (if 0 < (l1.length : Int) then (impl_FarthestDark.l0 k a0 l1 (l1.length : Int) 0 ((rd_T39 l1 0).f0) ((rd_T39 l1 0).f1)) else (none)) else (some (0, 0, false)))
theorem impl_FarthestDark.calls (k : Nat) (a0 : Int) (A1 : Option Addr) (c1 : Nat) (l1 : List (S39)) (r1 : Int) (r2 : Int) (r3 : Bool) (w : World) (hr1 : Kd.C k39 w A1 l1.length l1) (hc1 : l1.length ≤ c1) (h : impl_FarthestDark.f k a0 l1 = some (r1, r2, r3)) :
 Calls Tryz.prog 12 #[.int .i64 a0, .slice A1 l1.length c1] w fun e w' => e = .returned (.tuple #[.int .i64 r1, .int .i64 r2, .bool r3]) ∧ Below w.heap.size w w' := by
 have hu39 := Tryz.underlying39; have HR1 := Aside0.mk hr1; have HC1 := Aside0.mk hc1; clear hr1 hc1
 have HB := Aside0.mk (Below.refl w.heap.size w)
 have H := h; rw [impl_FarthestDark.f] at H; clear h; obtain ⟨t271, A3, H⟩ := zB H; (try dsimp only at H)
 by_cases c4 : t271 = true
 ·subst c4
  rw [if_pos rfl] at H
  by_cases c5 : 0 < (l1.length : Int)
  ·rw [if_pos c5] at H
   have c5b0 := decide_eq_true c5
   have c5b1 : decide (0 < l1.length) = true := decide_eq_true (by omega)
   clear c5; have H' := Aside0.mk H; clear H
   go_enter Tryz.func12, Tryz.ntmps12
   go_wp2_with (first | ((with_reducible refine gate_callee (f := 15) rfl ?_); refine zG (some 12) Tryz.func15 #[.int .i64 a0, .slice A1 l1.length c1] ?_; (with_reducible refine (impl_ArePoles.calls k a0 _ _ l1 true _ ?side1 ?side2 A3.out).mono ?_); (case side1 => repeat (first | exact HR1.out | (with_reducible refine Kd.C_alloc ?_ _) | (with_reducible refine Kd.C_drewN ?_ _) | (with_reducible refine Kd.C_drew ?_))); (case side2 => exact HC1.out); rintro e w6 ⟨rfl, hb⟩; refine ⟨_, rfl, ?_⟩; replace HB := zh HB hb; clear hb; have p272 : 0 ≤ (0 : Int) := (by omega); have q272 : 0 < (l1.length : Int) := of_decide_eq_true zU1_8; obtain ⟨ad272, e272, hx272_0, hx272_1⟩ := at_T39 HR1.out 0 p272 q272; cases e272; have qi272 : (0 < l1.length) = True := eq_true (by omega); (try rw [show ((0 : Int)).toNat = 0 from rfl] at hx272_0 hx272_1); (try rw [show 0 * 2 = 0 from rfl] at hx272_0 hx272_1); (try rw [Addr.add_zero'] at hx272_0 hx272_1); replace hx272_0 := (HB.out.cell (World.block_lt_of_cell? w _ hx272_0)).trans hx272_0; replace hx272_1 := (HB.out.cell (World.block_lt_of_cell? w _ hx272_1)).trans hx272_1; replace p272 := eq_true p272; replace q272 := eq_true q272) | ((with_reducible refine gate_dst (N := 7) rfl ?_); refine zE 7 #[.int .i64 0, .int .i64 0] 39 ?_; intro gb273 hg w7 hbox hb; have BK273 := Aside0.mk (hbox); have GW273 := zg HB hg; replace HB := zh HB hb; clear hb hbox hg; obtain ⟨_, _, _, _⟩ := zc2 BK273))
   go_loopg [19] k (fun kq v19 w' => ∃ (x19_1 : Int) (x274000_1 : Int) (x274001_1 : Int), v19 = .int .i64 x19_1 ∧ Aside0 (impl_FarthestDark.l0 kq a0 l1 (l1.length : Int) x19_1 x274000_1 x274001_1 = some (r1, r2, r3)) ∧ Aside0 (kq ≤ k) ∧ Aside0 (w'.heap[gb273]? = some (.cells #[.int .i64 x274000_1, .int .i64 x274001_1] 39 (0, 0))) ∧ Aside0 (Below w.heap.size w w'))
   case atStart => exact ⟨(0), ((rd_T39 l1 0).f0), ((rd_T39 l1 0).f1), zu, H', ⟨Nat.le_refl _⟩, ⟨zw BK273⟩, ⟨zy HB⟩⟩
   case round =>
    clear H'
    obtain ⟨x19_1, x274000_1, x274001_1, rfl, HA, HK1, BK273, HB⟩ := hrel
    cases gk with
    | zero => exact absurd HA.out (by simp [impl_FarthestDark.l0])
    | succ k1 =>
     have H := HA.out; clear HA; simp only [impl_FarthestDark.l0] at H
     by_cases c9 : x19_1 < (l1.length : Int)
     ·rw [if_pos c9] at H
      have c9b0 := decide_eq_true c9; clear c9
      by_cases c10 : 0 ≤ x19_1
      ·rw [if_pos c10] at H
       have c10b0 := decide_eq_true c10; clear c10
       by_cases c11 : x19_1 < (l1.length : Int)
       ·rw [if_pos c11] at H
        have c11b0 := decide_eq_true c11; clear c11
        by_cases c12 : (wrap64 (((rd_T39 l1 x19_1).f0) * (wrap64 (a0 - x274001_1)))) > (wrap64 (x274000_1 * (wrap64 (a0 - ((rd_T39 l1 x19_1).f1)))))
        ·rw [if_pos c12] at H
         have c12b0 := decide_eq_true c12; clear c12; have H' := Aside0.mk H; clear H
         have p274 : 0 ≤ (x19_1 : Int) := of_decide_eq_true zU1_8
         have q274 : x19_1 < (l1.length : Int) := of_decide_eq_true zU1_8
         obtain ⟨ad274, e274, hx274_0, hx274_1⟩ := at_T39 HR1.out x19_1 p274 q274
         obtain rfl : ad272 = ad274 := (by injection e274)
         replace hx274_0 := (HB.out.cell (World.block_lt_of_cell? w _ hx274_0)).trans hx274_0
         replace hx274_1 := (HB.out.cell (World.block_lt_of_cell? w _ hx274_1)).trans hx274_1
         replace p274 := eq_true p274; replace q274 := eq_true q274
         go_wp2_with (first | ((with_reducible refine gate_dst (N := 9) rfl ?_); refine zE 9 #[.int .i64 0, .int .i64 0] 39 ?_; intro gb275 hg w13 hbox hb; have BK275 := Aside0.mk (hbox); have GW275 := zg HB hg; have NB273_275 := zl BK273 hg; have NB275_273 := zr BK273 hg; replace BK273 := zb BK273 hb; replace HB := zh HB hb; clear hb hbox hg; have hnb14 := NB275_273.out; have hnc14 := NB273_275.out; obtain ⟨_, _, _, _⟩ := zc2 BK275; obtain ⟨_, _, _, _⟩ := zc2 BK273))
         go_roundg k1
         case measure => have := HK1.out; omega
         case rel => exact ⟨(wrap64 (x19_1 + 1)), ((rd_T39 l1 x19_1).f0), ((rd_T39 l1 x19_1).f1), zu, H', ⟨by have := HK1.out; omega⟩, ⟨zw BK273⟩, ⟨zy HB⟩⟩
        ·rw [if_neg c12] at H
         have c12b0 := decide_eq_false c12; clear c12; have H' := Aside0.mk H; clear H
         have p274 : 0 ≤ (x19_1 : Int) := of_decide_eq_true zU1_8
         have q274 : x19_1 < (l1.length : Int) := of_decide_eq_true zU1_8
         obtain ⟨ad274, e274, hx274_0, hx274_1⟩ := at_T39 HR1.out x19_1 p274 q274
         obtain rfl : ad272 = ad274 := (by injection e274)
         replace hx274_0 := (HB.out.cell (World.block_lt_of_cell? w _ hx274_0)).trans hx274_0
         replace hx274_1 := (HB.out.cell (World.block_lt_of_cell? w _ hx274_1)).trans hx274_1
         replace p274 := eq_true p274; replace q274 := eq_true q274
         go_wp2_with (first | ((with_reducible refine gate_dst (N := 9) rfl ?_); refine zE 9 #[.int .i64 0, .int .i64 0] 39 ?_; intro gb275 hg w17 hbox hb; have BK275 := Aside0.mk (hbox); have GW275 := zg HB hg; have NB273_275 := zl BK273 hg; have NB275_273 := zr BK273 hg; replace BK273 := zb BK273 hb; replace HB := zh HB hb; clear hb hbox hg; have hnb18 := NB275_273.out; have hnc18 := NB273_275.out; obtain ⟨_, _, _, _⟩ := zc2 BK275; obtain ⟨_, _, _, _⟩ := zc2 BK273))
         go_roundg k1
         case measure => have := HK1.out; omega
         case rel => exact ⟨(wrap64 (x19_1 + 1)), (x274000_1), (x274001_1), zu, H', ⟨by have := HK1.out; omega⟩, zk BK273, ⟨zy HB⟩⟩
       ·rw [if_neg c11] at H
        exact absurd H zU1_9
      ·rw [if_neg c10] at H
       exact absurd H zU1_9
     ·rw [if_neg c9] at H
      have c9b0 := decide_eq_false c9; clear c9; obtain ⟨⟨t276, t277, t278⟩, A21, H⟩ := zB H; (try dsimp only at H); simp only [Option.some.injEq, Prod.mk.injEq] at H; obtain ⟨rfl, rfl, rfl⟩ := H
      obtain ⟨_, _, _, _⟩ := zc2 BK273
      go_wp2_with (first | ((with_reducible refine gate_callee (f := 20) rfl ?_); refine zG (some 42) Tryz.func20 #[.int .i64 a0, .agg #[.int .i64 x274000_1, .int .i64 x274001_1]] ?_; (with_reducible refine (impl_ShadowEnd.calls k1 a0 x274000_1 x274001_1 t276 t277 t278 _ A21.out).mono ?_); rintro e w23 ⟨rfl, hb⟩; refine ⟨_, rfl, ?_⟩; replace BK273 := zb BK273 hb; replace HB := zh HB hb; clear hb))
      go_ret3
      exact ⟨zt, zy HB⟩
  ·rw [if_neg c5] at H
   exact absurd H zU1_9
 ·replace c4 := Bool.eq_false_iff.mpr c4
  subst c4; rw [if_neg (show ¬ (false = true) by decide)] at H; simp only [Option.some.injEq, Prod.mk.injEq] at H; obtain ⟨rfl, rfl, rfl⟩ := H
  go_enter Tryz.func12, Tryz.ntmps12
  go_wp2_with (first | ((with_reducible refine gate_callee (f := 15) rfl ?_); refine zG (some 12) Tryz.func15 #[.int .i64 a0, .slice A1 l1.length c1] ?_; (with_reducible refine (impl_ArePoles.calls k a0 _ _ l1 false _ ?side1 ?side2 A3.out).mono ?_); (case side1 => repeat (first | exact HR1.out | (with_reducible refine Kd.C_alloc ?_ _) | (with_reducible refine Kd.C_drewN ?_ _) | (with_reducible refine Kd.C_drew ?_))); (case side2 => exact HC1.out); rintro e w24 ⟨rfl, hb⟩; refine ⟨_, rfl, ?_⟩; replace HB := zh HB hb; clear hb))
  go_ret3
  exact ⟨zt, zy HB⟩


/-! ### spec_swBoth: function 47 -/
def spec_swBoth.f (a0 : Int) (a1_0 : Int) (a1_1 : Int) : Option (Bool) := (spec_swLamp.f a0).bind fun t280 => (if t280 = true then ((spec_swPole.f a1_0 a1_1).bind fun t281 => (if t281 = true then (some (decide (a1_1 < a0))) else (some false))) else (some false))
theorem spec_swBoth.calls (a0 : Int) (a1_0 : Int) (a1_1 : Int) (r : Bool) (w : World) (h : spec_swBoth.f a0 a1_0 a1_1 = some r) :
 Calls Tryz.prog 47 #[.int .i64 a0, .agg #[.int .i64 a1_0, .int .i64 a1_1]] w fun e w' => e = .returned (.bool r) ∧ Below w.heap.size w w' := by
 have hu39 := Tryz.underlying39
 have HB := Aside0.mk (Below.refl w.heap.size w)
 have H := h; rw [spec_swBoth.f] at H; clear h; obtain ⟨t280, A3, H⟩ := zB H; (try dsimp only at H)
 by_cases c4 : t280 = true
 ·subst c4
  rw [if_pos rfl] at H; obtain ⟨t281, A5, H⟩ := zB H; (try dsimp only at H)
  by_cases c6 : t281 = true
  ·subst c6
   rw [if_pos rfl] at H
   obtain rfl := Option.some.inj H
   go_enter Tryz.func47, Tryz.ntmps47
   go_wp2_with (first | ((with_reducible refine gate_dst (N := 3) rfl ?_); refine zE 3 #[.int .i64 a1_0, .int .i64 a1_1] 39 ?_; intro gb279 hg w7 hbox hb; have BK279 := Aside0.mk (hbox); have GW279 := zg HB hg; replace HB := zh HB hb; clear hb hbox hg) | ((with_reducible refine gate_callee (f := 62) rfl ?_); refine zG (some 6) Tryz.func62 #[.int .i64 a0] ?_; (with_reducible refine (spec_swLamp.calls a0 true _ A3.out).mono ?_); rintro e w' ⟨rfl, ⟨nd, rfl⟩⟩; refine ⟨_, rfl, ?_⟩; obtain ⟨_, _, _, _⟩ := zc2 BK279) | (go_at_call 68; (with_reducible refine (spec_swPole.calls a1_0 a1_1 true _ A5.out).mono ?_); rintro e w9 ⟨rfl, hb⟩; replace BK279 := zb BK279 hb; replace HB := zh HB hb; clear hb; obtain ⟨_, _, _, _⟩ := zc2 BK279))
   go_ret
   exact ⟨zt, zy HB⟩
  ·replace c6 := Bool.eq_false_iff.mpr c6
   subst c6; rw [if_neg (show ¬ (false = true) by decide)] at H
   obtain rfl := Option.some.inj H
   go_enter Tryz.func47, Tryz.ntmps47
   go_wp2_with (first | ((with_reducible refine gate_dst (N := 3) rfl ?_); refine zE 3 #[.int .i64 a1_0, .int .i64 a1_1] 39 ?_; intro gb279 hg w11 hbox hb; have BK279 := Aside0.mk (hbox); have GW279 := zg HB hg; replace HB := zh HB hb; clear hb hbox hg) | ((with_reducible refine gate_callee (f := 62) rfl ?_); refine zG (some 6) Tryz.func62 #[.int .i64 a0] ?_; (with_reducible refine (spec_swLamp.calls a0 true _ A3.out).mono ?_); rintro e w' ⟨rfl, ⟨nd, rfl⟩⟩; refine ⟨_, rfl, ?_⟩; obtain ⟨_, _, _, _⟩ := zc2 BK279) | (go_at_call 68; (with_reducible refine (spec_swPole.calls a1_0 a1_1 false _ A5.out).mono ?_); rintro e w13 ⟨rfl, hb⟩; replace BK279 := zb BK279 hb; replace HB := zh HB hb; clear hb))
   go_ret
   exact ⟨zt, zy HB⟩
 ·replace c4 := Bool.eq_false_iff.mpr c4
  subst c4; rw [if_neg (show ¬ (false = true) by decide)] at H
  obtain rfl := Option.some.inj H
  go_enter Tryz.func47, Tryz.ntmps47
  go_wp2_with (first | ((with_reducible refine gate_dst (N := 3) rfl ?_); refine zE 3 #[.int .i64 a1_0, .int .i64 a1_1] 39 ?_; intro gb279 hg w14 hbox hb; have BK279 := Aside0.mk (hbox); have GW279 := zg HB hg; replace HB := zh HB hb; clear hb hbox hg) | ((with_reducible refine gate_callee (f := 62) rfl ?_); refine zG (some 6) Tryz.func62 #[.int .i64 a0] ?_; (with_reducible refine (spec_swLamp.calls a0 false _ A3.out).mono ?_); rintro e w' ⟨rfl, ⟨nd, rfl⟩⟩; refine ⟨_, rfl, ?_⟩))
  go_ret
  exact ⟨zt, zy HB⟩


/-! ### spec_ShadowEnd: function 43 -/
def spec_ShadowEnd.f (k : Nat) (a0 : Int) (a1_0 : Int) (a1_1 : Int) : Option (Int × Int × Bool) := (spec_swBoth.f a0 a1_0 a1_1).bind fun t283 => (if t283 = true then ((spec_clLow.f k (wrap64 (a1_0 * a0)) (wrap64 (a0 - a1_1))).bind fun bt284 => (some (bt284.1, bt284.2, true))) else (some (0, 0, false)))
theorem spec_ShadowEnd.calls (k : Nat) (a0 : Int) (a1_0 : Int) (a1_1 : Int) (r1 : Int) (r2 : Int) (r3 : Bool) (w : World) (h : spec_ShadowEnd.f k a0 a1_0 a1_1 = some (r1, r2, r3)) :
 Calls Tryz.prog 43 #[.int .i64 a0, .agg #[.int .i64 a1_0, .int .i64 a1_1]] w fun e w' => e = .returned (.tuple #[.int .i64 r1, .int .i64 r2, .bool r3]) ∧ Below w.heap.size w w' := by
 have hu39 := Tryz.underlying39
 have HB := Aside0.mk (Below.refl w.heap.size w)
 have H := h; rw [spec_ShadowEnd.f] at H; clear h; obtain ⟨t283, A3, H⟩ := zB H; (try dsimp only at H)
 by_cases c4 : t283 = true
 ·subst c4
  rw [if_pos rfl] at H; obtain ⟨⟨t284, t285⟩, A5, H⟩ := zB H; (try dsimp only at H); simp only [Option.some.injEq, Prod.mk.injEq] at H; obtain ⟨rfl, rfl, rfl⟩ := H
  go_enter Tryz.func43, Tryz.ntmps43
  go_wp2_with (first | ((with_reducible refine gate_dst (N := 3) rfl ?_); refine zE 3 #[.int .i64 a1_0, .int .i64 a1_1] 39 ?_; intro gb282 hg w6 hbox hb; have BK282 := Aside0.mk (hbox); have GW282 := zg HB hg; replace HB := zh HB hb; clear hb hbox hg; obtain ⟨_, _, _, _⟩ := zc2 BK282) | ((with_reducible refine gate_callee (f := 47) rfl ?_); refine zG (some 11) Tryz.func47 #[.int .i64 a0, .agg #[.int .i64 a1_0, .int .i64 a1_1]] ?_; (with_reducible refine (spec_swBoth.calls a0 a1_0 a1_1 true _ A3.out).mono ?_); rintro e w8 ⟨rfl, hb⟩; refine ⟨_, rfl, ?_⟩; replace BK282 := zb BK282 hb; replace HB := zh HB hb; clear hb; obtain ⟨_, _, _, _⟩ := zc2 BK282) | ((with_reducible refine gate_callee (f := 48) rfl ?_); refine zG (some 22) Tryz.func48 #[.int .i64 (wrap64 (a1_0 * a0)), .int .i64 (wrap64 (a0 - a1_1))] ?_; (with_reducible refine (spec_clLow.calls k (wrap64 (a1_0 * a0)) (wrap64 (a0 - a1_1)) t284 t285 _ A5.out).mono ?_); rintro e w' ⟨rfl, ⟨nd, rfl⟩⟩; refine ⟨_, rfl, ?_⟩))
  go_ret3
  exact ⟨zt, zy HB⟩
 ·replace c4 := Bool.eq_false_iff.mpr c4
  subst c4; rw [if_neg (show ¬ (false = true) by decide)] at H; simp only [Option.some.injEq, Prod.mk.injEq] at H; obtain ⟨rfl, rfl, rfl⟩ := H
  go_enter Tryz.func43, Tryz.ntmps43
  go_wp2_with (first | ((with_reducible refine gate_dst (N := 3) rfl ?_); refine zE 3 #[.int .i64 a1_0, .int .i64 a1_1] 39 ?_; intro gb282 hg w10 hbox hb; have BK282 := Aside0.mk (hbox); have GW282 := zg HB hg; replace HB := zh HB hb; clear hb hbox hg; obtain ⟨_, _, _, _⟩ := zc2 BK282) | ((with_reducible refine gate_callee (f := 47) rfl ?_); refine zG (some 11) Tryz.func47 #[.int .i64 a0, .agg #[.int .i64 a1_0, .int .i64 a1_1]] ?_; (with_reducible refine (spec_swBoth.calls a0 a1_0 a1_1 false _ A3.out).mono ?_); rintro e w12 ⟨rfl, hb⟩; refine ⟨_, rfl, ?_⟩; replace BK282 := zb BK282 hb; replace HB := zh HB hb; clear hb))
  go_ret3
  exact ⟨zt, zy HB⟩


/-! ### spec_FarthestDark: function 13 -/
def spec_FarthestDark.l0 : Nat → Int → List (S39) → Int → List (S39) → Int → Int → Option (Int × Int × Bool)
 | 0, _, _, _, _, _, _ => none
 | k + 1, x0, x1, x7, x15, x16, x17 => if x17 < x16 then (if 0 ≤ x17 then (if x17 < (x15.length : Int) then (if 0 ≤ x7 then (if x7 < (x1.length : Int) then (if (wrap64 (((rd_T39 x15 x17).f0) * (wrap64 (x0 - ((rd_T39 x1 x7).f1))))) > (wrap64 (((rd_T39 x1 x7).f0) * (wrap64 (x0 - ((rd_T39 x15 x17).f1))))) then (spec_FarthestDark.l0 k x0 x1 x17 x15 x16 (wrap64 (x17 + 1))) else (spec_FarthestDark.l0 k x0 x1 x7 x15 x16 (wrap64 (x17 + 1)))) else (none)) else (none)) else (none)) else (none)) else (if 0 ≤ x7 then (if x7 < (x1.length : Int) then ((spec_ShadowEnd.f k x0 ((rd_T39 x1 x7).f0) ((rd_T39 x1 x7).f1)).bind fun bt292 => (some (bt292.1, bt292.2.1, bt292.2.2))) else (none)) else (none))
def spec_FarthestDark.f (k : Nat) (a0 : Int) (l1 : List (S39)) : Option (Int × Int × Bool) := (spec_swGood.f k a0 l1).bind fun t286 => (if t286 = true then (spec_FarthestDark.l0 k a0 l1 0 l1 (l1.length : Int) 0) else (some (0, 0, false)))
theorem spec_FarthestDark.calls (k : Nat) (a0 : Int) (A1 : Option Addr) (c1 : Nat) (l1 : List (S39)) (r1 : Int) (r2 : Int) (r3 : Bool) (w : World) (hr1 : Kd.C k39 w A1 l1.length l1) (hc1 : l1.length ≤ c1) (h : spec_FarthestDark.f k a0 l1 = some (r1, r2, r3)) :
 Calls Tryz.prog 13 #[.int .i64 a0, .slice A1 l1.length c1] w fun e w' => e = .returned (.tuple #[.int .i64 r1, .int .i64 r2, .bool r3]) ∧ Below w.heap.size w w' := by
 have hu39 := Tryz.underlying39; have HR1 := Aside0.mk hr1; have HC1 := Aside0.mk hc1; clear hr1 hc1
 have HB := Aside0.mk (Below.refl w.heap.size w)
 have H := h; rw [spec_FarthestDark.f] at H; clear h; obtain ⟨t286, A3, H⟩ := zB H; (try dsimp only at H)
 by_cases c4 : t286 = true
 ·subst c4
  rw [if_pos rfl] at H; have H' := Aside0.mk H; clear H
  go_enter Tryz.func13, Tryz.ntmps13
  go_wp2_with (first | ((with_reducible refine gate_callee (f := 39) rfl ?_); refine zG (some 13) Tryz.func39 #[.int .i64 a0, .slice A1 l1.length c1] ?_; (with_reducible refine (spec_swGood.calls k a0 _ _ l1 true _ ?side1 ?side2 A3.out).mono ?_); (case side1 => repeat (first | exact HR1.out | (with_reducible refine Kd.C_alloc ?_ _) | (with_reducible refine Kd.C_drewN ?_ _) | (with_reducible refine Kd.C_drew ?_))); (case side2 => exact HC1.out); rintro e w5 ⟨rfl, hb⟩; refine ⟨_, rfl, ?_⟩; replace HB := zh HB hb; clear hb))
  go_loopg [7, 17] k (fun kq v7 v17 w' => ∃ (x7_1 : Int) (x17_1 : Int), v7 = .int .i64 x7_1 ∧ v17 = .int .i64 x17_1 ∧ Aside0 (spec_FarthestDark.l0 kq a0 l1 x7_1 l1 (l1.length : Int) x17_1 = some (r1, r2, r3)) ∧ Aside0 (kq ≤ k) ∧ Aside0 (Below w.heap.size w w'))
  case atStart => exact ⟨(0), (0), zu, zu, H', ⟨Nat.le_refl _⟩, ⟨zy HB⟩⟩
  case round =>
   clear H'
   obtain ⟨x7_1, x17_1, rfl, rfl, HA, HK1, HB⟩ := hrel
   cases gk with
   | zero => exact absurd HA.out (by simp [spec_FarthestDark.l0])
   | succ k1 =>
    have H := HA.out; clear HA; simp only [spec_FarthestDark.l0] at H
    by_cases c6 : x17_1 < (l1.length : Int)
    ·rw [if_pos c6] at H
     have c6b0 := decide_eq_true c6; clear c6
     by_cases c7 : 0 ≤ x17_1
     ·rw [if_pos c7] at H
      have c7b0 := decide_eq_true c7; clear c7
      by_cases c8 : x17_1 < (l1.length : Int)
      ·rw [if_pos c8] at H
       have c8b0 := decide_eq_true c8; clear c8
       by_cases c9 : 0 ≤ x7_1
       ·rw [if_pos c9] at H
        have c9b0 := decide_eq_true c9; clear c9
        by_cases c10 : x7_1 < (l1.length : Int)
        ·rw [if_pos c10] at H
         have c10b0 := decide_eq_true c10; clear c10
         by_cases c11 : (wrap64 (((rd_T39 l1 x17_1).f0) * (wrap64 (a0 - ((rd_T39 l1 x7_1).f1))))) > (wrap64 (((rd_T39 l1 x7_1).f0) * (wrap64 (a0 - ((rd_T39 l1 x17_1).f1)))))
         ·rw [if_pos c11] at H
          have c11b0 := decide_eq_true c11; clear c11; have H' := Aside0.mk H; clear H
          have p287 : 0 ≤ (x17_1 : Int) := of_decide_eq_true zU1_8
          have q287 : x17_1 < (l1.length : Int) := of_decide_eq_true zU1_8
          obtain ⟨ad287, e287, hx287_0, hx287_1⟩ := at_T39 HR1.out x17_1 p287 q287
          cases e287
          replace hx287_0 := (HB.out.cell (World.block_lt_of_cell? w _ hx287_0)).trans hx287_0
          replace hx287_1 := (HB.out.cell (World.block_lt_of_cell? w _ hx287_1)).trans hx287_1
          replace p287 := eq_true p287; replace q287 := eq_true q287
          go_wp2_with (first | ((with_reducible refine gate_dst (N := 9) rfl ?_); refine zE 9 #[.int .i64 0, .int .i64 0] 39 ?_; intro gb288 hg w12 hbox hb; have BK288 := Aside0.mk (hbox); have GW288 := zg HB hg; replace HB := zh HB hb; clear hb hbox hg; obtain ⟨_, _, _, _⟩ := zc2 BK288; have p289 : 0 ≤ (x7_1 : Int) := of_decide_eq_true zU1_8; have q289 : x7_1 < (l1.length : Int) := of_decide_eq_true zU1_8; obtain ⟨ad289, e289, hx289_0, hx289_1⟩ := at_T39 HR1.out x7_1 p289 q289; obtain rfl : ad287 = ad289 := (by injection e289); have hn289_0 : ad287.block ≠ gb288 := Nat.ne_of_lt (Nat.lt_of_lt_of_le (by have := World.block_lt_of_cell? _ _ hx289_0; first | rwa [add_block] at this | exact this) GW288.out); have hn289_1 : ad287.block ≠ gb288 := Nat.ne_of_lt (Nat.lt_of_lt_of_le (by have := World.block_lt_of_cell? _ _ hx289_0; first | rwa [add_block] at this | exact this) GW288.out); replace hx289_0 := (HB.out.cell (World.block_lt_of_cell? w _ hx289_0)).trans hx289_0; replace hx289_1 := (HB.out.cell (World.block_lt_of_cell? w _ hx289_1)).trans hx289_1; replace hx289_0 := (cell_far (p := ⟨gb288, 0, none⟩) zU1_5 (.int .i64 ((rd_T39 l1 x17_1).f0))).trans hx289_0; replace hx289_1 := (cell_far (p := ⟨gb288, 0, none⟩) zU1_5 (.int .i64 ((rd_T39 l1 x17_1).f0))).trans hx289_1; replace hx289_0 := (cell_far (p := ⟨gb288, 1, none⟩) zU1_6 (.int .i64 ((rd_T39 l1 x17_1).f1))).trans hx289_0; replace hx289_1 := (cell_far (p := ⟨gb288, 1, none⟩) zU1_6 (.int .i64 ((rd_T39 l1 x17_1).f1))).trans hx289_1; clear hn289_0; clear hn289_1; replace p289 := eq_true p289; replace q289 := eq_true q289) | ((with_reducible refine gate_dst (N := 10) rfl ?_); refine zE 10 #[.int .i64 0, .int .i64 0] 39 ?_; intro gb290 hg w14 hbox hb; have n0_ := Aside0.mk (blk_below (g := gb288) (o := .cells #[.int .i64 ((rd_T39 l1 x17_1).f0), .int .i64 ((rd_T39 l1 x17_1).f1)] 39 (0, 0)) (zw BK288) hb); have BK290 := Aside0.mk (hbox); have GW290 := zg HB hg; have NB288_290 := Aside0.mk ((by rw [hg]; exact Nat.ne_of_lt (blk_lt (g := gb288) (o := .cells #[.int .i64 ((rd_T39 l1 x17_1).f0), .int .i64 ((rd_T39 l1 x17_1).f1)] 39 (0, 0)) (zw BK288)) : gb288 ≠ gb290)); have NB290_288 := Aside0.mk ((by rw [hg]; exact Nat.ne_of_gt (blk_lt (g := gb288) (o := .cells #[.int .i64 ((rd_T39 l1 x17_1).f0), .int .i64 ((rd_T39 l1 x17_1).f1)] 39 (0, 0)) (zw BK288)) : gb290 ≠ gb288)); replace HB := zh HB hb; clear BK288; have BK288 := n0_; clear n0_; clear hb hbox hg; have hnb15 := NB290_288.out; have hnc15 := NB288_290.out; obtain ⟨_, _, _, _⟩ := zc2 BK290; obtain ⟨_, _, _, _⟩ := zc2 BK288))
          go_roundg k1
          case measure => have := HK1.out; omega
          case rel => exact ⟨(x17_1), (wrap64 (x17_1 + 1)), zu, zu, H', ⟨by have := HK1.out; omega⟩, ⟨zy HB⟩⟩
         ·rw [if_neg c11] at H
          have c11b0 := decide_eq_false c11; clear c11; have H' := Aside0.mk H; clear H
          have p287 : 0 ≤ (x17_1 : Int) := of_decide_eq_true zU1_8
          have q287 : x17_1 < (l1.length : Int) := of_decide_eq_true zU1_8
          obtain ⟨ad287, e287, hx287_0, hx287_1⟩ := at_T39 HR1.out x17_1 p287 q287
          cases e287
          replace hx287_0 := (HB.out.cell (World.block_lt_of_cell? w _ hx287_0)).trans hx287_0
          replace hx287_1 := (HB.out.cell (World.block_lt_of_cell? w _ hx287_1)).trans hx287_1
          replace p287 := eq_true p287; replace q287 := eq_true q287
          go_wp2_with (first | ((with_reducible refine gate_dst (N := 9) rfl ?_); refine zE 9 #[.int .i64 0, .int .i64 0] 39 ?_; intro gb288 hg w18 hbox hb; have BK288 := Aside0.mk (hbox); have GW288 := zg HB hg; replace HB := zh HB hb; clear hb hbox hg; obtain ⟨_, _, _, _⟩ := zc2 BK288; have p289 : 0 ≤ (x7_1 : Int) := of_decide_eq_true zU1_8; have q289 : x7_1 < (l1.length : Int) := of_decide_eq_true zU1_8; obtain ⟨ad289, e289, hx289_0, hx289_1⟩ := at_T39 HR1.out x7_1 p289 q289; obtain rfl : ad287 = ad289 := (by injection e289); have hn289_0 : ad287.block ≠ gb288 := Nat.ne_of_lt (Nat.lt_of_lt_of_le (by have := World.block_lt_of_cell? _ _ hx289_0; first | rwa [add_block] at this | exact this) GW288.out); have hn289_1 : ad287.block ≠ gb288 := Nat.ne_of_lt (Nat.lt_of_lt_of_le (by have := World.block_lt_of_cell? _ _ hx289_0; first | rwa [add_block] at this | exact this) GW288.out); replace hx289_0 := (HB.out.cell (World.block_lt_of_cell? w _ hx289_0)).trans hx289_0; replace hx289_1 := (HB.out.cell (World.block_lt_of_cell? w _ hx289_1)).trans hx289_1; replace hx289_0 := (cell_far (p := ⟨gb288, 0, none⟩) zU1_5 (.int .i64 ((rd_T39 l1 x17_1).f0))).trans hx289_0; replace hx289_1 := (cell_far (p := ⟨gb288, 0, none⟩) zU1_5 (.int .i64 ((rd_T39 l1 x17_1).f0))).trans hx289_1; replace hx289_0 := (cell_far (p := ⟨gb288, 1, none⟩) zU1_6 (.int .i64 ((rd_T39 l1 x17_1).f1))).trans hx289_0; replace hx289_1 := (cell_far (p := ⟨gb288, 1, none⟩) zU1_6 (.int .i64 ((rd_T39 l1 x17_1).f1))).trans hx289_1; clear hn289_0; clear hn289_1; replace p289 := eq_true p289; replace q289 := eq_true q289) | ((with_reducible refine gate_dst (N := 10) rfl ?_); refine zE 10 #[.int .i64 0, .int .i64 0] 39 ?_; intro gb290 hg w20 hbox hb; have n0_ := Aside0.mk (blk_below (g := gb288) (o := .cells #[.int .i64 ((rd_T39 l1 x17_1).f0), .int .i64 ((rd_T39 l1 x17_1).f1)] 39 (0, 0)) (zw BK288) hb); have BK290 := Aside0.mk (hbox); have GW290 := zg HB hg; have NB288_290 := Aside0.mk ((by rw [hg]; exact Nat.ne_of_lt (blk_lt (g := gb288) (o := .cells #[.int .i64 ((rd_T39 l1 x17_1).f0), .int .i64 ((rd_T39 l1 x17_1).f1)] 39 (0, 0)) (zw BK288)) : gb288 ≠ gb290)); have NB290_288 := Aside0.mk ((by rw [hg]; exact Nat.ne_of_gt (blk_lt (g := gb288) (o := .cells #[.int .i64 ((rd_T39 l1 x17_1).f0), .int .i64 ((rd_T39 l1 x17_1).f1)] 39 (0, 0)) (zw BK288)) : gb290 ≠ gb288)); replace HB := zh HB hb; clear BK288; have BK288 := n0_; clear n0_; clear hb hbox hg; have hnb21 := NB290_288.out; have hnc21 := NB288_290.out; obtain ⟨_, _, _, _⟩ := zc2 BK290; obtain ⟨_, _, _, _⟩ := zc2 BK288))
          go_roundg k1
          case measure => have := HK1.out; omega
          case rel => exact ⟨(x7_1), (wrap64 (x17_1 + 1)), zu, zu, H', ⟨by have := HK1.out; omega⟩, ⟨zy HB⟩⟩
        ·rw [if_neg c10] at H
         exact absurd H zU1_9
       ·rw [if_neg c9] at H
        exact absurd H zU1_9
      ·rw [if_neg c8] at H
       exact absurd H zU1_9
     ·rw [if_neg c7] at H
      exact absurd H zU1_9
    ·rw [if_neg c6] at H
     have c6b0 := decide_eq_false c6; clear c6
     by_cases c24 : 0 ≤ x7_1
     ·rw [if_pos c24] at H
      have c24b0 := decide_eq_true c24; clear c24
      by_cases c25 : x7_1 < (l1.length : Int)
      ·rw [if_pos c25] at H
       have c25b0 := decide_eq_true c25; clear c25; obtain ⟨⟨t292, t293, t294⟩, A26, H⟩ := zB H; (try dsimp only at H); simp only [Option.some.injEq, Prod.mk.injEq] at H; obtain ⟨rfl, rfl, rfl⟩ := H
       have p291 : 0 ≤ (x7_1 : Int) := of_decide_eq_true zU1_8
       have q291 : x7_1 < (l1.length : Int) := of_decide_eq_true zU1_8
       obtain ⟨ad291, e291, hx291_0, hx291_1⟩ := at_T39 HR1.out x7_1 p291 q291
       cases e291
       replace hx291_0 := (HB.out.cell (World.block_lt_of_cell? w _ hx291_0)).trans hx291_0
       replace hx291_1 := (HB.out.cell (World.block_lt_of_cell? w _ hx291_1)).trans hx291_1
       replace p291 := eq_true p291; replace q291 := eq_true q291
       go_wp2_with (first | ((with_reducible refine gate_callee (f := 43) rfl ?_); refine zG (some 48) Tryz.func43 #[.int .i64 a0, .agg #[.int .i64 ((rd_T39 l1 x7_1).f0), .int .i64 ((rd_T39 l1 x7_1).f1)]] ?_; (with_reducible refine (spec_ShadowEnd.calls k1 a0 ((rd_T39 l1 x7_1).f0) ((rd_T39 l1 x7_1).f1) t292 t293 t294 _ A26.out).mono ?_); rintro e w27 ⟨rfl, hb⟩; refine ⟨_, rfl, ?_⟩; replace HB := zh HB hb; clear hb))
       go_ret3
       exact ⟨zt, zy HB⟩
      ·rw [if_neg c25] at H
       exact absurd H zU1_9
     ·rw [if_neg c24] at H
      exact absurd H zU1_9
 ·replace c4 := Bool.eq_false_iff.mpr c4
  subst c4; rw [if_neg (show ¬ (false = true) by decide)] at H; simp only [Option.some.injEq, Prod.mk.injEq] at H; obtain ⟨rfl, rfl, rfl⟩ := H
  go_enter Tryz.func13, Tryz.ntmps13
  go_wp2_with (first | ((with_reducible refine gate_callee (f := 39) rfl ?_); refine zG (some 13) Tryz.func39 #[.int .i64 a0, .slice A1 l1.length c1] ?_; (with_reducible refine (spec_swGood.calls k a0 _ _ l1 false _ ?side1 ?side2 A3.out).mono ?_); (case side1 => repeat (first | exact HR1.out | (with_reducible refine Kd.C_alloc ?_ _) | (with_reducible refine Kd.C_drewN ?_ _) | (with_reducible refine Kd.C_drew ?_))); (case side2 => exact HC1.out); rintro e w28 ⟨rfl, hb⟩; refine ⟨_, rfl, ?_⟩; replace HB := zh HB hb; clear hb))
  go_ret3
  exact ⟨zt, zy HB⟩


/-! ### laws_ySame: function 14 -/
def laws_ySame.l0 : Nat → List Int → List Int → Int → Int → Option (Bool)
 | 0, _, _, _, _ => none
 | k + 1, x0, x1, x12, x13 => if x13 < x12 then (if 0 ≤ x13 then (if x13 < (x0.length : Int) then (if x13 < (x1.length : Int) then (if (rd x0 x13) = (rd x1 x13) then (laws_ySame.l0 k x0 x1 x12 (wrap64 (x13 + 1))) else (some false)) else (none)) else (none)) else (none)) else (some true)
def laws_ySame.f (k : Nat) (l0 : List Int) (l1 : List Int) : Option (Bool) := if (l0.length : Int) = (l1.length : Int) then (laws_ySame.l0 k l0 l1 (l0.length : Int) 0) else (some false)
theorem laws_ySame.calls (k : Nat) (A0 : Option Addr) (c0 : Nat) (l0 : List Int) (A1 : Option Addr) (c1 : Nat) (l1 : List Int) (r : Bool) (w : World) (hr0 : Kd.C (Kd.int .i64) w A0 l0.length l0) (hc0 : l0.length ≤ c0) (hr1 : Kd.C (Kd.int .i64) w A1 l1.length l1) (hc1 : l1.length ≤ c1) (h : laws_ySame.f k l0 l1 = some r) :
 Calls Tryz.prog 14 #[.slice A0 l0.length c0, .slice A1 l1.length c1] w fun e w' => e = .returned (.bool r) ∧ Drawn0 w w' := by
 have HR0 := Aside0.mk hr0; have HC0 := Aside0.mk hc0; clear hr0 hc0; have HR1 := Aside0.mk hr1; have HC1 := Aside0.mk hc1; clear hr1 hc1; have H := h; rw [laws_ySame.f] at H; clear h
 by_cases c3 : (l0.length : Int) = (l1.length : Int)
 ·rw [if_pos c3] at H
  have c3b0 := beq_iff_eq.mpr c3; have c3b1 := bne_eq_false_iff_eq.mpr c3
  have c3b2 : (l0.length == l1.length) = true := by first | simpa using c3 | (simp at c3 ⊢; omega)
  clear c3; have H' := Aside0.mk H; clear H
  go_enter Tryz.func14, Tryz.ntmps14
  go_wp2
  repeat (go_quiet (fail); try go_wp2)
  go_loopg [13] k (fun kq v13 w' => ∃ (x13_1 : Int), v13 = .int .i64 x13_1 ∧ Aside0 (laws_ySame.l0 kq l0 l1 (l0.length : Int) x13_1 = some r) ∧ Aside0 (kq ≤ k) ∧ Drawn0 w w')
  case atStart => exact ⟨(0), zu, H', ⟨Nat.le_refl _⟩, by repeat (first | exact Drawn0.refl _ | apply Drawn0.step)⟩
  case round =>
   clear H'
   obtain ⟨x13_1, rfl, HA, HK1, ⟨m1, rfl⟩⟩ := hrel
   cases gk with
   | zero => exact absurd HA.out (by simp [laws_ySame.l0])
   | succ k1 =>
    have H := HA.out; clear HA; simp only [laws_ySame.l0] at H
    by_cases c4 : x13_1 < (l0.length : Int)
    ·rw [if_pos c4] at H
     have c4b0 := decide_eq_true c4; clear c4
     by_cases c5 : 0 ≤ x13_1
     ·rw [if_pos c5] at H
      have c5b0 := decide_eq_true c5; clear c5
      by_cases c6 : x13_1 < (l0.length : Int)
      ·rw [if_pos c6] at H
       have c6b0 := decide_eq_true c6; clear c6
       by_cases c7 : x13_1 < (l1.length : Int)
       ·rw [if_pos c7] at H
        have c7b0 := decide_eq_true c7; clear c7
        by_cases c8 : (rd l0 x13_1) = (rd l1 x13_1)
        ·rw [if_pos c8] at H
         have c8b0 := beq_iff_eq.mpr c8; have c8b1 := bne_eq_false_iff_eq.mpr c8; clear c8; have H' := Aside0.mk H; clear H
         have p295 : 0 ≤ (x13_1 : Int) := of_decide_eq_true zU1_8
         have q295 : x13_1 < (l0.length : Int) := of_decide_eq_true zU1_8
         obtain ⟨ad295, e295, hx295_0⟩ := Kd.at_int HR0.out x13_1 p295 q295
         cases e295; replace p295 := eq_true p295; replace q295 := eq_true q295
         have p296 : 0 ≤ (x13_1 : Int) := of_decide_eq_true zU1_8
         have q296 : x13_1 < (l1.length : Int) := of_decide_eq_true zU1_8
         obtain ⟨ad296, e296, hx296_0⟩ := Kd.at_int HR1.out x13_1 p296 q296
         cases e296; replace p296 := eq_true p296; replace q296 := eq_true q296
         go_wp2
         repeat (go_quiet (fail); try go_wp2)
         go_roundg k1
         case measure => have := HK1.out; omega
         case rel => exact ⟨(wrap64 (x13_1 + 1)), zu, H', ⟨by have := HK1.out; omega⟩, by repeat (first | exact Drawn0.refl _ | apply Drawn0.step)⟩
        ·rw [if_neg c8] at H
         have c8b0 := beq_eq_false_iff_ne.mpr c8; have c8b1 := bne_iff_ne.mpr c8
         obtain rfl := Option.some.inj H
         have p295 : 0 ≤ (x13_1 : Int) := of_decide_eq_true zU1_8
         have q295 : x13_1 < (l0.length : Int) := of_decide_eq_true zU1_8
         obtain ⟨ad295, e295, hx295_0⟩ := Kd.at_int HR0.out x13_1 p295 q295
         cases e295; replace p295 := eq_true p295; replace q295 := eq_true q295
         have p296 : 0 ≤ (x13_1 : Int) := of_decide_eq_true zU1_8
         have q296 : x13_1 < (l1.length : Int) := of_decide_eq_true zU1_8
         obtain ⟨ad296, e296, hx296_0⟩ := Kd.at_int HR1.out x13_1 p296 q296
         cases e296; replace p296 := eq_true p296; replace q296 := eq_true q296
         go_wp2
         repeat (go_quiet (fail); try go_wp2)
         go_ret
         exact ⟨by first | rfl | (simp; done) | (simp [*]; done), by repeat (first | exact Drawn0.refl _ | apply Drawn0.step)⟩
       ·rw [if_neg c7] at H
        exact absurd H zU1_9
      ·rw [if_neg c6] at H
       exact absurd H zU1_9
     ·rw [if_neg c5] at H
      exact absurd H zU1_9
    ·rw [if_neg c4] at H
     have c4b0 := decide_eq_false c4; clear c4
     obtain rfl := Option.some.inj H
     go_wp2
     repeat (go_quiet (fail); try go_wp2)
     go_ret
     exact ⟨by first | rfl | (simp; done) | (simp [*]; done), by repeat (first | exact Drawn0.refl _ | apply Drawn0.step)⟩
 ·rw [if_neg c3] at H
  have c3b0 := beq_eq_false_iff_ne.mpr c3; have c3b1 := bne_iff_ne.mpr c3
  have c3b2 : (l0.length == l1.length) = false := by first | simpa using c3 | (simp at c3 ⊢; omega)
  obtain rfl := Option.some.inj H
  go_enter Tryz.func14, Tryz.ntmps14
  go_wp2
  repeat (go_quiet (fail); try go_wp2)
  go_ret
  exact ⟨by first | rfl | (simp; done) | (simp [*]; done), by repeat (first | exact Drawn0.refl _ | apply Drawn0.step)⟩


/-! ### spec_ArePoles: function 16 -/
def spec_ArePoles.f (k : Nat) (a0 : Int) (l1 : List (S39)) : Option (Bool) := (spec_swGood.f k a0 l1).bind fun t297 => (some t297)
theorem spec_ArePoles.calls (k : Nat) (a0 : Int) (A1 : Option Addr) (c1 : Nat) (l1 : List (S39)) (r : Bool) (w : World) (hr1 : Kd.C k39 w A1 l1.length l1) (hc1 : l1.length ≤ c1) (h : spec_ArePoles.f k a0 l1 = some r) :
 Calls Tryz.prog 16 #[.int .i64 a0, .slice A1 l1.length c1] w fun e w' => e = .returned (.bool r) ∧ Below w.heap.size w w' := by
 have HR1 := Aside0.mk hr1; have HC1 := Aside0.mk hc1; clear hr1 hc1
 have HB := Aside0.mk (Below.refl w.heap.size w)
 have H := h; rw [spec_ArePoles.f] at H; clear h; obtain ⟨t297, A3, H⟩ := zB H; (try dsimp only at H)
 obtain rfl := Option.some.inj H
 go_enter Tryz.func16, Tryz.ntmps16
 go_wp2_with (first | ((with_reducible refine gate_callee (f := 39) rfl ?_); refine zG (some 7) Tryz.func39 #[.int .i64 a0, .slice A1 l1.length c1] ?_; (with_reducible refine (spec_swGood.calls k a0 _ _ l1 t297 _ ?side1 ?side2 A3.out).mono ?_); (case side1 => repeat (first | exact HR1.out | (with_reducible refine Kd.C_alloc ?_ _) | (with_reducible refine Kd.C_drewN ?_ _) | (with_reducible refine Kd.C_drew ?_))); (case side2 => exact HC1.out); rintro e w4 ⟨rfl, hb⟩; refine ⟨_, rfl, ?_⟩; replace HB := zh HB hb; clear hb))
 go_ret
 exact ⟨zt, zy HB⟩


/-! ### impl_ShadowLength: function 17 -/
def impl_ShadowLength.f (k : Nat) (a0 : Int) (a1_0 : Int) (a1_1 : Int) : Option (Int × Int × Bool) := (impl_isPoleOf.f a0 a1_0 a1_1).bind fun t299 => (if t299 = true then ((impl_fraction.f k (wrap64 (a1_0 * a1_1)) (wrap64 (a0 - a1_1))).bind fun bt300 => (some (bt300.1, bt300.2.1, bt300.2.2))) else (some (0, 0, false)))
theorem impl_ShadowLength.calls (k : Nat) (a0 : Int) (a1_0 : Int) (a1_1 : Int) (r1 : Int) (r2 : Int) (r3 : Bool) (w : World) (h : impl_ShadowLength.f k a0 a1_0 a1_1 = some (r1, r2, r3)) :
 Calls Tryz.prog 17 #[.int .i64 a0, .agg #[.int .i64 a1_0, .int .i64 a1_1]] w fun e w' => e = .returned (.tuple #[.int .i64 r1, .int .i64 r2, .bool r3]) ∧ Below w.heap.size w w' := by
 have hu39 := Tryz.underlying39
 have HB := Aside0.mk (Below.refl w.heap.size w)
 have H := h; rw [impl_ShadowLength.f] at H; clear h; obtain ⟨t299, A3, H⟩ := zB H; (try dsimp only at H)
 by_cases c4 : t299 = true
 ·subst c4
  rw [if_pos rfl] at H; obtain ⟨⟨t300, t301, t302⟩, A5, H⟩ := zB H; (try dsimp only at H); simp only [Option.some.injEq, Prod.mk.injEq] at H; obtain ⟨rfl, rfl, rfl⟩ := H
  go_enter Tryz.func17, Tryz.ntmps17
  go_wp2_with (first | ((with_reducible refine gate_dst (N := 3) rfl ?_); refine zE 3 #[.int .i64 a1_0, .int .i64 a1_1] 39 ?_; intro gb298 hg w6 hbox hb; have BK298 := Aside0.mk (hbox); have GW298 := zg HB hg; replace HB := zh HB hb; clear hb hbox hg; obtain ⟨_, _, _, _⟩ := zc2 BK298) | ((with_reducible refine gate_callee (f := 44) rfl ?_); refine zG (some 9) Tryz.func44 #[.int .i64 a0, .agg #[.int .i64 a1_0, .int .i64 a1_1]] ?_; (with_reducible refine (impl_isPoleOf.calls a0 a1_0 a1_1 true _ A3.out).mono ?_); rintro e w8 ⟨rfl, hb⟩; refine ⟨_, rfl, ?_⟩; replace BK298 := zb BK298 hb; replace HB := zh HB hb; clear hb; obtain ⟨_, _, _, _⟩ := zc2 BK298) | ((with_reducible refine gate_callee (f := 45) rfl ?_); refine zG (some 20) Tryz.func45 #[.int .i64 (wrap64 (a1_0 * a1_1)), .int .i64 (wrap64 (a0 - a1_1))] ?_; (with_reducible refine (impl_fraction.calls k (wrap64 (a1_0 * a1_1)) (wrap64 (a0 - a1_1)) t300 t301 t302 _ A5.out).mono ?_); rintro e w10 ⟨rfl, hb⟩; refine ⟨_, rfl, ?_⟩; replace BK298 := zb BK298 hb; replace HB := zh HB hb; clear hb))
  go_ret3
  exact ⟨zt, zy HB⟩
 ·replace c4 := Bool.eq_false_iff.mpr c4
  subst c4; rw [if_neg (show ¬ (false = true) by decide)] at H; simp only [Option.some.injEq, Prod.mk.injEq] at H; obtain ⟨rfl, rfl, rfl⟩ := H
  go_enter Tryz.func17, Tryz.ntmps17
  go_wp2_with (first | ((with_reducible refine gate_dst (N := 3) rfl ?_); refine zE 3 #[.int .i64 a1_0, .int .i64 a1_1] 39 ?_; intro gb298 hg w11 hbox hb; have BK298 := Aside0.mk (hbox); have GW298 := zg HB hg; replace HB := zh HB hb; clear hb hbox hg; obtain ⟨_, _, _, _⟩ := zc2 BK298) | ((with_reducible refine gate_callee (f := 44) rfl ?_); refine zG (some 9) Tryz.func44 #[.int .i64 a0, .agg #[.int .i64 a1_0, .int .i64 a1_1]] ?_; (with_reducible refine (impl_isPoleOf.calls a0 a1_0 a1_1 false _ A3.out).mono ?_); rintro e w13 ⟨rfl, hb⟩; refine ⟨_, rfl, ?_⟩; replace BK298 := zb BK298 hb; replace HB := zh HB hb; clear hb))
  go_ret3
  exact ⟨zt, zy HB⟩


/-! ### laws_yRises: function 18 -/
def laws_yRises.l0 : Nat → List Int → Int → Option (Bool)
 | 0, _, _ => none
 | k + 1, x0, x3 => if x3 < (x0.length : Int) then (if 0 ≤ (wrap64 (x3 - 1)) then (if (wrap64 (x3 - 1)) < (x0.length : Int) then (if 0 ≤ x3 then (if (rd x0 (wrap64 (x3 - 1))) ≥ (rd x0 x3) then (some false) else (laws_yRises.l0 k x0 (wrap64 (x3 + 1)))) else (none)) else (none)) else (none)) else (some true)
def laws_yRises.f (k : Nat) (l0 : List Int) : Option (Bool) := laws_yRises.l0 k l0 1
theorem laws_yRises.calls (k : Nat) (A0 : Option Addr) (c0 : Nat) (l0 : List Int) (r : Bool) (w : World) (hr0 : Kd.C (Kd.int .i64) w A0 l0.length l0) (hc0 : l0.length ≤ c0) (h : laws_yRises.f k l0 = some r) :
 Calls Tryz.prog 18 #[.slice A0 l0.length c0] w fun e w' => e = .returned (.bool r) ∧ Drawn0 w w' := by
 have HR0 := Aside0.mk hr0; have HC0 := Aside0.mk hc0; clear hr0 hc0; have H := h; rw [laws_yRises.f] at H; clear h; have H' := Aside0.mk H; clear H
 go_enter Tryz.func18, Tryz.ntmps18
 go_wp2
 repeat (go_quiet (fail); try go_wp2)
 go_loopg [3] k (fun kq v3 w' => ∃ (x3_1 : Int), v3 = .int .i64 x3_1 ∧ Aside0 (laws_yRises.l0 kq l0 x3_1 = some r) ∧ Aside0 (kq ≤ k) ∧ Drawn0 w w')
 case atStart => exact ⟨(1), zu, H', ⟨Nat.le_refl _⟩, by repeat (first | exact Drawn0.refl _ | apply Drawn0.step)⟩
 case round =>
  clear H'
  obtain ⟨x3_1, rfl, HA, HK1, ⟨m1, rfl⟩⟩ := hrel
  cases gk with
  | zero => exact absurd HA.out (by simp [laws_yRises.l0])
  | succ k1 =>
   have H := HA.out; clear HA; simp only [laws_yRises.l0] at H
   by_cases c2 : x3_1 < (l0.length : Int)
   ·rw [if_pos c2] at H
    have c2b0 := decide_eq_true c2; clear c2
    obtain ⟨ji3, hji3⟩ : ∃ j_ : Int, (wrap64 (x3_1 - 1)) = j_ := ⟨_, rfl⟩
    replace H : (if 0 ≤ (ji3) then (if (ji3) < (l0.length : Int) then (if 0 ≤ x3_1 then (if (rd l0 (ji3)) ≥ (rd l0 x3_1) then (some false) else (laws_yRises.l0 k1 l0 (wrap64 (x3_1 + 1)))) else (none)) else (none)) else (none)) = some r := by first | (rw [hji3] at H; exact H) | (simp only [hji3] at H ⊢; exact H)
    have hji3w : (IntKind.i64.wrap (x3_1 - 1)) = ji3 := (i64_w _).trans hji3
    by_cases c4 : 0 ≤ (ji3)
    ·rw [if_pos c4] at H
     have c4b0 := decide_eq_true c4; clear c4
     by_cases c5 : (ji3) < (l0.length : Int)
     ·rw [if_pos c5] at H
      have c5b0 := decide_eq_true c5; clear c5
      by_cases c6 : 0 ≤ x3_1
      ·rw [if_pos c6] at H
       have c6b0 := decide_eq_true c6; clear c6
       by_cases c7 : (rd l0 (ji3)) ≥ (rd l0 x3_1)
       ·rw [if_pos c7] at H
        have c7b0 := decide_eq_true c7; clear c7
        obtain rfl := Option.some.inj H
        have p303 : 0 ≤ ((ji3) : Int) := of_decide_eq_true zU1_8
        have q303 : (ji3) < (l0.length : Int) := of_decide_eq_true zU1_8
        obtain ⟨ad303, e303, hx303_0⟩ := Kd.at_int HR0.out (ji3) p303 q303
        cases e303; replace p303 := eq_true p303; replace q303 := eq_true q303
        have p304 : 0 ≤ (x3_1 : Int) := of_decide_eq_true zU1_8
        have q304 : x3_1 < (l0.length : Int) := of_decide_eq_true zU1_8
        obtain ⟨ad304, e304, hx304_0⟩ := Kd.at_int HR0.out x3_1 p304 q304
        obtain rfl : ad303 = ad304 := (by injection e304)
        replace p304 := eq_true p304; replace q304 := eq_true q304
        go_wp2
        repeat (go_quiet (fail); try go_wp2)
        go_ret
        exact ⟨by first | rfl | (simp; done) | (simp only [← hji3] <;> (first | rfl | simp)) | (simp [*]; done), by repeat (first | exact Drawn0.refl _ | apply Drawn0.step)⟩
       ·rw [if_neg c7] at H
        have c7b0 := decide_eq_false c7; clear c7; have H' := Aside0.mk H; clear H
        have p303 : 0 ≤ ((ji3) : Int) := of_decide_eq_true zU1_8
        have q303 : (ji3) < (l0.length : Int) := of_decide_eq_true zU1_8
        obtain ⟨ad303, e303, hx303_0⟩ := Kd.at_int HR0.out (ji3) p303 q303
        cases e303; replace p303 := eq_true p303; replace q303 := eq_true q303
        have p304 : 0 ≤ (x3_1 : Int) := of_decide_eq_true zU1_8
        have q304 : x3_1 < (l0.length : Int) := of_decide_eq_true zU1_8
        obtain ⟨ad304, e304, hx304_0⟩ := Kd.at_int HR0.out x3_1 p304 q304
        obtain rfl : ad303 = ad304 := (by injection e304)
        replace p304 := eq_true p304; replace q304 := eq_true q304
        go_wp2
        repeat (go_quiet (fail); try go_wp2)
        go_roundg k1
        case measure => have := HK1.out; omega
        case rel => exact ⟨(wrap64 (x3_1 + 1)), zu, H', ⟨by have := HK1.out; omega⟩, by repeat (first | exact Drawn0.refl _ | apply Drawn0.step)⟩
      ·rw [if_neg c6] at H
       exact absurd H zU1_9
     ·rw [if_neg c5] at H
      exact absurd H zU1_9
    ·rw [if_neg c4] at H
     exact absurd H zU1_9
   ·rw [if_neg c2] at H
    have c2b0 := decide_eq_false c2; clear c2
    obtain rfl := Option.some.inj H
    go_wp2
    repeat (go_quiet (fail); try go_wp2)
    go_ret
    exact ⟨by first | rfl | (simp; done) | (simp [*]; done), by repeat (first | exact Drawn0.refl _ | apply Drawn0.step)⟩


/-! ### laws_yHas: function 19 -/
def laws_yHas.l0 : Nat → Int → List Int → Int → Int → Option (Bool)
 | 0, _, _, _, _ => none
 | k + 1, x1, x7, x8, x9 => if x9 < x8 then (if 0 ≤ x9 then (if x9 < (x7.length : Int) then (if (rd x7 x9) = x1 then (some true) else (laws_yHas.l0 k x1 x7 x8 (wrap64 (x9 + 1)))) else (none)) else (none)) else (some false)
def laws_yHas.f (k : Nat) (l0 : List Int) (a1 : Int) : Option (Bool) := laws_yHas.l0 k a1 l0 (l0.length : Int) 0
theorem laws_yHas.calls (k : Nat) (A0 : Option Addr) (c0 : Nat) (l0 : List Int) (a1 : Int) (r : Bool) (w : World) (hr0 : Kd.C (Kd.int .i64) w A0 l0.length l0) (hc0 : l0.length ≤ c0) (h : laws_yHas.f k l0 a1 = some r) :
 Calls Tryz.prog 19 #[.slice A0 l0.length c0, .int .i64 a1] w fun e w' => e = .returned (.bool r) ∧ Drawn0 w w' := by
 have HR0 := Aside0.mk hr0; have HC0 := Aside0.mk hc0; clear hr0 hc0; have H := h; rw [laws_yHas.f] at H; clear h; have H' := Aside0.mk H; clear H
 go_enter Tryz.func19, Tryz.ntmps19
 go_wp2
 go_loopg [9] k (fun kq v9 w' => ∃ (x9_1 : Int), v9 = .int .i64 x9_1 ∧ Aside0 (laws_yHas.l0 kq a1 l0 (l0.length : Int) x9_1 = some r) ∧ Aside0 (kq ≤ k) ∧ Drawn0 w w')
 case atStart => exact ⟨(0), zu, H', ⟨Nat.le_refl _⟩, by repeat (first | exact Drawn0.refl _ | apply Drawn0.step)⟩
 case round =>
  clear H'
  obtain ⟨x9_1, rfl, HA, HK1, ⟨m1, rfl⟩⟩ := hrel
  cases gk with
  | zero => exact absurd HA.out (by simp [laws_yHas.l0])
  | succ k1 =>
   have H := HA.out; clear HA; simp only [laws_yHas.l0] at H
   by_cases c3 : x9_1 < (l0.length : Int)
   ·rw [if_pos c3] at H
    have c3b0 := decide_eq_true c3; clear c3
    by_cases c4 : 0 ≤ x9_1
    ·rw [if_pos c4] at H
     have c4b0 := decide_eq_true c4; clear c4
     by_cases c5 : x9_1 < (l0.length : Int)
     ·rw [if_pos c5] at H
      have c5b0 := decide_eq_true c5; clear c5
      by_cases c6 : (rd l0 x9_1) = a1
      ·rw [if_pos c6] at H
       have c6b0 := beq_iff_eq.mpr c6; have c6b1 := bne_eq_false_iff_eq.mpr c6; clear c6
       obtain rfl := Option.some.inj H
       have p305 : 0 ≤ (x9_1 : Int) := of_decide_eq_true zU1_8
       have q305 : x9_1 < (l0.length : Int) := of_decide_eq_true zU1_8
       obtain ⟨ad305, e305, hx305_0⟩ := Kd.at_int HR0.out x9_1 p305 q305
       cases e305; replace p305 := eq_true p305; replace q305 := eq_true q305
       go_wp2
       go_ret
       exact ⟨by first | rfl | (simp; done) | (simp [*]; done), by repeat (first | exact Drawn0.refl _ | apply Drawn0.step)⟩
      ·rw [if_neg c6] at H
       have c6b0 := beq_eq_false_iff_ne.mpr c6; have c6b1 := bne_iff_ne.mpr c6; have H' := Aside0.mk H; clear H
       have p305 : 0 ≤ (x9_1 : Int) := of_decide_eq_true zU1_8
       have q305 : x9_1 < (l0.length : Int) := of_decide_eq_true zU1_8
       obtain ⟨ad305, e305, hx305_0⟩ := Kd.at_int HR0.out x9_1 p305 q305
       cases e305; replace p305 := eq_true p305; replace q305 := eq_true q305
       go_wp2
       go_roundg k1
       case measure => have := HK1.out; omega
       case rel => exact ⟨(wrap64 (x9_1 + 1)), zu, H', ⟨by have := HK1.out; omega⟩, by repeat (first | exact Drawn0.refl _ | apply Drawn0.step)⟩
     ·rw [if_neg c5] at H
      exact absurd H zU1_9
    ·rw [if_neg c4] at H
     exact absurd H zU1_9
   ·rw [if_neg c3] at H
    have c3b0 := decide_eq_false c3; clear c3
    obtain rfl := Option.some.inj H
    go_wp2
    go_ret
    exact ⟨by first | rfl | (simp; done) | (simp [*]; done), by repeat (first | exact Drawn0.refl _ | apply Drawn0.step)⟩


/-! ### impl_IsHidden: function 21 -/
def impl_IsHidden.f (a0 : Int) (a1_0 : Int) (a1_1 : Int) (a2_0 : Int) (a2_1 : Int) : Option (Bool × Bool) := (impl_isPoleOf.f a0 a1_0 a1_1).bind fun t308 => (if t308 = true then ((impl_isPoleOf.f a0 a2_0 a2_1).bind fun t309 => (if t309 = true then ((impl_isHidden.f a0 a1_0 a1_1 a2_0 a2_1).bind fun t310 => (some (t310, true))) else (some (false, false)))) else (some (false, false)))
theorem impl_IsHidden.calls (a0 : Int) (a1_0 : Int) (a1_1 : Int) (a2_0 : Int) (a2_1 : Int) (r1 : Bool) (r2 : Bool) (w : World) (h : impl_IsHidden.f a0 a1_0 a1_1 a2_0 a2_1 = some (r1, r2)) :
 Calls Tryz.prog 21 #[.int .i64 a0, .agg #[.int .i64 a1_0, .int .i64 a1_1], .agg #[.int .i64 a2_0, .int .i64 a2_1]] w fun e w' => e = .returned (.tuple #[.bool r1, .bool r2]) ∧ Below w.heap.size w w' := by
 have hu39 := Tryz.underlying39
 have HB := Aside0.mk (Below.refl w.heap.size w)
 have H := h; rw [impl_IsHidden.f] at H; clear h; obtain ⟨t308, A4, H⟩ := zB H; (try dsimp only at H)
 by_cases c5 : t308 = true
 ·subst c5
  rw [if_pos rfl] at H; obtain ⟨t309, A6, H⟩ := zB H; (try dsimp only at H)
  by_cases c7 : t309 = true
  ·subst c7
   rw [if_pos rfl] at H; obtain ⟨t310, A8, H⟩ := zB H; (try dsimp only at H); simp only [Option.some.injEq, Prod.mk.injEq] at H; obtain ⟨rfl, rfl⟩ := H
   go_enter Tryz.func21, Tryz.ntmps21
   go_wp2_with (first | ((with_reducible refine gate_dst (N := 4) rfl ?_); refine zE 4 #[.int .i64 a1_0, .int .i64 a1_1] 39 ?_; intro gb306 hg w9 hbox hb; have BK306 := Aside0.mk (hbox); have GW306 := zg HB hg; replace HB := zh HB hb; clear hb hbox hg) | ((with_reducible refine gate_dst (N := 5) rfl ?_); refine zE 5 #[.int .i64 a2_0, .int .i64 a2_1] 39 ?_; intro gb307 hg w10 hbox hb; have BK307 := Aside0.mk (hbox); have GW307 := zg HB hg; have NB306_307 := zl BK306 hg; have NB307_306 := zr BK306 hg; replace BK306 := zb BK306 hb; replace HB := zh HB hb; clear hb hbox hg; have hnb11 := NB306_307.out; have hnc11 := NB307_306.out; obtain ⟨_, _, _, _⟩ := zc2 BK306) | ((with_reducible refine gate_callee (f := 44) rfl ?_); refine zG (some 10) Tryz.func44 #[.int .i64 a0, .agg #[.int .i64 a1_0, .int .i64 a1_1]] ?_; (with_reducible refine (impl_isPoleOf.calls a0 a1_0 a1_1 true _ A4.out).mono ?_); rintro e w13 ⟨rfl, hb⟩; refine ⟨_, rfl, ?_⟩; replace BK306 := zb BK306 hb; replace BK307 := zb BK307 hb; replace HB := zh HB hb; clear hb; obtain ⟨_, _, _, _⟩ := zc2 BK307) | (go_at_call 44; (with_reducible refine (impl_isPoleOf.calls a0 a2_0 a2_1 true _ A6.out).mono ?_); rintro e w15 ⟨rfl, hb⟩; replace BK306 := zb BK306 hb; replace BK307 := zb BK307 hb; replace HB := zh HB hb; clear hb; obtain ⟨_, _, _, _⟩ := zc2 BK306; obtain ⟨_, _, _, _⟩ := zc2 BK307) | ((with_reducible refine gate_callee (f := 41) rfl ?_); refine zG (some 21) Tryz.func41 #[.int .i64 a0, .agg #[.int .i64 a1_0, .int .i64 a1_1], .agg #[.int .i64 a2_0, .int .i64 a2_1]] ?_; (with_reducible refine (impl_isHidden.calls a0 a1_0 a1_1 a2_0 a2_1 t310 _ A8.out).mono ?_); rintro e w18 ⟨rfl, hb⟩; refine ⟨_, rfl, ?_⟩; replace BK306 := zb BK306 hb; replace BK307 := zb BK307 hb; replace HB := zh HB hb; clear hb))
   go_ret2
   exact ⟨zt, zy HB⟩
  ·replace c7 := Bool.eq_false_iff.mpr c7
   subst c7; rw [if_neg (show ¬ (false = true) by decide)] at H; simp only [Option.some.injEq, Prod.mk.injEq] at H; obtain ⟨rfl, rfl⟩ := H
   go_enter Tryz.func21, Tryz.ntmps21
   go_wp2_with (first | ((with_reducible refine gate_dst (N := 4) rfl ?_); refine zE 4 #[.int .i64 a1_0, .int .i64 a1_1] 39 ?_; intro gb306 hg w19 hbox hb; have BK306 := Aside0.mk (hbox); have GW306 := zg HB hg; replace HB := zh HB hb; clear hb hbox hg) | ((with_reducible refine gate_dst (N := 5) rfl ?_); refine zE 5 #[.int .i64 a2_0, .int .i64 a2_1] 39 ?_; intro gb307 hg w20 hbox hb; have BK307 := Aside0.mk (hbox); have GW307 := zg HB hg; have NB306_307 := zl BK306 hg; have NB307_306 := zr BK306 hg; replace BK306 := zb BK306 hb; replace HB := zh HB hb; clear hb hbox hg; have hnb21 := NB306_307.out; have hnc21 := NB307_306.out; obtain ⟨_, _, _, _⟩ := zc2 BK306) | ((with_reducible refine gate_callee (f := 44) rfl ?_); refine zG (some 10) Tryz.func44 #[.int .i64 a0, .agg #[.int .i64 a1_0, .int .i64 a1_1]] ?_; (with_reducible refine (impl_isPoleOf.calls a0 a1_0 a1_1 true _ A4.out).mono ?_); rintro e w23 ⟨rfl, hb⟩; refine ⟨_, rfl, ?_⟩; replace BK306 := zb BK306 hb; replace BK307 := zb BK307 hb; replace HB := zh HB hb; clear hb; obtain ⟨_, _, _, _⟩ := zc2 BK307) | (go_at_call 44; (with_reducible refine (impl_isPoleOf.calls a0 a2_0 a2_1 false _ A6.out).mono ?_); rintro e w25 ⟨rfl, hb⟩; replace BK306 := zb BK306 hb; replace BK307 := zb BK307 hb; replace HB := zh HB hb; clear hb))
   go_ret2
   exact ⟨zt, zy HB⟩
 ·replace c5 := Bool.eq_false_iff.mpr c5
  subst c5; rw [if_neg (show ¬ (false = true) by decide)] at H; simp only [Option.some.injEq, Prod.mk.injEq] at H; obtain ⟨rfl, rfl⟩ := H
  go_enter Tryz.func21, Tryz.ntmps21
  go_wp2_with (first | ((with_reducible refine gate_dst (N := 4) rfl ?_); refine zE 4 #[.int .i64 a1_0, .int .i64 a1_1] 39 ?_; intro gb306 hg w26 hbox hb; have BK306 := Aside0.mk (hbox); have GW306 := zg HB hg; replace HB := zh HB hb; clear hb hbox hg) | ((with_reducible refine gate_dst (N := 5) rfl ?_); refine zE 5 #[.int .i64 a2_0, .int .i64 a2_1] 39 ?_; intro gb307 hg w27 hbox hb; have BK307 := Aside0.mk (hbox); have GW307 := zg HB hg; have NB306_307 := zl BK306 hg; have NB307_306 := zr BK306 hg; replace BK306 := zb BK306 hb; replace HB := zh HB hb; clear hb hbox hg; have hnb28 := NB306_307.out; have hnc28 := NB307_306.out; obtain ⟨_, _, _, _⟩ := zc2 BK306) | ((with_reducible refine gate_callee (f := 44) rfl ?_); refine zG (some 10) Tryz.func44 #[.int .i64 a0, .agg #[.int .i64 a1_0, .int .i64 a1_1]] ?_; (with_reducible refine (impl_isPoleOf.calls a0 a1_0 a1_1 false _ A4.out).mono ?_); rintro e w30 ⟨rfl, hb⟩; refine ⟨_, rfl, ?_⟩; replace BK306 := zb BK306 hb; replace BK307 := zb BK307 hb; replace HB := zh HB hb; clear hb))
  go_ret2
  exact ⟨zt, zy HB⟩


/-! ### spec_l1Cur_surePole: function 67 -/
def spec_l1Cur_surePole.f (s0_0 : List Int) (s0_1 : Int) (s0_2 : Int) : Option (Int × Int × Int × Int) := (spec_l1Cur_pick.f s0_0 s0_1 s0_2 12).bind fun bt312 => ((spec_l1Cur_pick.f s0_0 bt312.2.1 bt312.2.2 3).bind fun bt315 => (some (wrap64 (1 + bt312.1), wrap64 (1 + bt315.1), bt315.2.1, bt315.2.2)))
theorem spec_l1Cur_surePole.calls (g : Nat) (s0_0 : List Int) (s0_1 : Int) (s0_2 : Int) (r1 : Int) (r2 : Int) (r3 : Int) (r4 : Int) (w0 w : World) (hI : IsS61 w0 w g s0_0 s0_1 s0_2) (hB : Below w0.heap.size w0 w) (h : spec_l1Cur_surePole.f s0_0 s0_1 s0_2 = some (r1, r2, r3, r4)) :
 Calls Tryz.prog 67 #[.pointer (some ⟨g, 0, none⟩)] w fun e w' => e = .returned (.agg #[.int .i64 r1, .int .i64 r2]) ∧ IsS61 w0 w' g s0_0 r3 r4 ∧ Below w0.heap.size w0 w' ∧ KeepBut w w' g none := by
 have hu39 := Tryz.underlying39; have HI0 := Aside0.mk hI
 have HK := Aside0.mk (KeepBut.refl w g none)
 have HL := Aside0.mk hB.size; clear hI; have HW0 := Aside0.mk hB.size; have HB := Aside0.mk hB; clear hB; have H := h; rw [spec_l1Cur_surePole.f] at H; clear h; obtain ⟨⟨t312, t313, t314⟩, A2, H⟩ := zB H; (try dsimp only at H); obtain ⟨⟨t315, t316, t317⟩, A3, H⟩ := zB H; (try dsimp only at H); simp only [Option.some.injEq, Prod.mk.injEq] at H; obtain ⟨rfl, rfl, rfl, rfl⟩ := H
 go_enter Tryz.func67, Tryz.ntmps67
 go_wp2_with (first | ((with_reducible refine gate_dst (N := 2) rfl ?_); refine zE 2 #[.int .i64 0, .int .i64 0] 39 ?_; intro gb311 hg w4 hbox hb; have BK311 := Aside0.mk (hbox); have GW311 := zKg HK hg; have GE311 := Aside0.mk (Nat.le_trans HW0.out GW311.out); have NB0_311 := zL61 HI0 hg; have NB311_0 := zR61 HI0 hg; replace HI0 := zJ61 HI0 hb; replace HK := zKb HK hb; replace HB := zH61 HB hb; clear hb hbox hg) | ((with_reducible refine gate_callee (f := 61) rfl ?_); refine zG (some 4) Tryz.func61 #[.pointer (some ⟨g, 0, none⟩), .int .i64 12] ?_; (with_reducible refine (spec_l1Cur_pick.calls g s0_0 s0_1 s0_2 12 t312 t313 t314 w0 _ ?side1 ?side2 A2.out).mono ?_); (case side1 => exact zI61 HI0); (case side2 => exact zY61 HB); rintro e w5 ⟨rfl, hi, hb, hk⟩; refine ⟨_, rfl, ?_⟩; replace BK311 := zKB BK311 hk; replace HK := zKt HK hk; replace HB := Aside0.mk hb; replace HI0 := Aside0.mk hi; clear hb hk hi) | ((with_reducible refine gate_callee (f := 61) rfl ?_); refine zG (some 7) Tryz.func61 #[.pointer (some ⟨g, 0, none⟩), .int .i64 3] ?_; (with_reducible refine (spec_l1Cur_pick.calls g s0_0 t313 t314 3 t315 t316 t317 w0 _ ?side1 ?side2 A3.out).mono ?_); (case side1 => exact zI61 HI0); (case side2 => exact zY61 HB); rintro e w6 ⟨rfl, hi, hb, hk⟩; refine ⟨_, rfl, ?_⟩; replace BK311 := zKB BK311 hk; replace HK := zKt HK hk; replace HB := Aside0.mk hb; replace HI0 := Aside0.mk hi; clear hb hk hi; have hnb7 := NB311_0.out; have hnc7 := NB0_311.out; obtain ⟨_, _, _, _⟩ := zc2 BK311))
 refine bodyPost_ret (results_cell_row rfl _ _ gb311 39 #[.int .i64 (wrap64 (1 + t312)), .int .i64 (wrap64 (1 + t315))] (0, 0) _ rfl (zw BK311) Tryz.underlying39 rfl (by kernel_rfl)) rfl ?_
 exact ⟨zt, (zI61 HI0), zY61 HB, zKe HK⟩


/-! ### spec_l1Cur_pole: function 46 -/
def spec_l1Cur_pole.f (s0_0 : List Int) (s0_1 : Int) (s0_2 : Int) : Option (Int × Int × Int × Int) := (spec_l1Cur_surePole.f s0_0 s0_1 s0_2).bind fun bt319 => ((spec_l1Cur_pick.f s0_0 bt319.2.2.1 bt319.2.2.2 14).bind fun bt324 => (if bt324.1 = 0 then ((spec_l1Cur_among.f s0_0 bt324.2.1 bt324.2.2 (([0, (-1), 500, 501, 4611686018427387904] : List Int))).bind fun bt330 => (some (bt330.1, bt319.2.1, bt330.2.1, bt330.2.2))) else (if bt324.1 = 1 then ((spec_l1Cur_among.f s0_0 bt324.2.1 bt324.2.2 (([0, (-1), 6, 200, 201, 4611686018427387904] : List Int))).bind fun bt336 => (some (bt319.1, bt336.1, bt336.2.1, bt336.2.2))) else (some (bt319.1, bt319.2.1, bt324.2.1, bt324.2.2)))))
theorem spec_l1Cur_pole.calls (g : Nat) (s0_0 : List Int) (s0_1 : Int) (s0_2 : Int) (r1 : Int) (r2 : Int) (r3 : Int) (r4 : Int) (w0 w : World) (hI : IsS61 w0 w g s0_0 s0_1 s0_2) (hB : Below w0.heap.size w0 w) (h : spec_l1Cur_pole.f s0_0 s0_1 s0_2 = some (r1, r2, r3, r4)) :
 Calls Tryz.prog 46 #[.pointer (some ⟨g, 0, none⟩)] w fun e w' => e = .returned (.agg #[.int .i64 r1, .int .i64 r2]) ∧ IsS61 w0 w' g s0_0 r3 r4 ∧ Below w0.heap.size w0 w' ∧ KeepBut w w' g none := by
 have hu39 := Tryz.underlying39; have HI0 := Aside0.mk hI
 have HK := Aside0.mk (KeepBut.refl w g none)
 have HL := Aside0.mk hB.size; clear hI; have HW0 := Aside0.mk hB.size; have HB := Aside0.mk hB; clear hB; have H := h; rw [spec_l1Cur_pole.f] at H; clear h; obtain ⟨⟨t319, t320, t321, t322⟩, A2, H⟩ := zB H; (try dsimp only at H); obtain ⟨⟨t324, t325, t326⟩, A3, H⟩ := zB H; (try dsimp only at H)
 by_cases c4 : t324 = 0
 ·rw [if_pos c4] at H
  have c4b0 := beq_iff_eq.mpr c4; have c4b1 := bne_eq_false_iff_eq.mpr c4; clear c4
  obtain ⟨y327, hy327⟩ : ∃ y_ : List Int, y_ = (([0, (-1), 500, 501, 4611686018427387904] : List Int)) := ⟨_, rfl⟩
  replace H : ((spec_l1Cur_among.f s0_0 t325 t326 y327).bind fun bt330 => (some (bt330.1, t320, bt330.2.1, bt330.2.2))) = some (r1, r2, r3, r4) := by first | (rw [hy327]; with_reducible exact H) | (have H2_ := (Option.bind_some _ _).symm.trans H; rw [hy327]; with_reducible exact H2_) | (have H2_ := (Option.bind_some _ _).symm.trans H; with_reducible exact H2_) | with_reducible exact H | (rw [hy327]; exact H) | exact H
  have Ny327 := Aside0.mk hy327; clear hy327; obtain ⟨⟨t330, t331, t332⟩, A5, H⟩ := zB H; (try dsimp only at H); simp only [Option.some.injEq, Prod.mk.injEq] at H; obtain ⟨rfl, rfl, rfl, rfl⟩ := H
  go_enter Tryz.func46, Tryz.ntmps46
  go_wp2_with (first | ((with_reducible refine gate_dst (N := 2) rfl ?_); refine zE 2 #[.int .i64 0, .int .i64 0] 39 ?_; intro gb318 hg w6 hbox hb; have BK318 := Aside0.mk (hbox); have GW318 := zKg HK hg; have GE318 := Aside0.mk (Nat.le_trans HW0.out GW318.out); have NB0_318 := zL61 HI0 hg; have NB318_0 := zR61 HI0 hg; replace HI0 := zJ61 HI0 hb; replace HK := zKb HK hb; replace HB := zH61 HB hb; clear hb hbox hg) | ((with_reducible refine gate_callee (f := 67) rfl ?_); refine zG (some 5) Tryz.func67 #[.pointer (some ⟨g, 0, none⟩)] ?_; (with_reducible refine (spec_l1Cur_surePole.calls g s0_0 s0_1 s0_2 t319 t320 t321 t322 w0 _ ?side1 ?side2 A2.out).mono ?_); (case side1 => exact zI61 HI0); (case side2 => exact zY61 HB); rintro e w7 ⟨rfl, hi, hb, hk⟩; refine ⟨_, rfl, ?_⟩; replace BK318 := zKB BK318 hk; replace HK := zKt HK hk; replace HB := Aside0.mk hb; replace HI0 := Aside0.mk hi; clear hb hk hi) | ((with_reducible refine gate_dst (N := 3) rfl ?_); refine zE 3 #[.int .i64 0, .int .i64 0] 39 ?_; intro gb323 hg w8 hbox hb; have BK323 := Aside0.mk (hbox); have GW323 := zKg HK hg; have GE323 := Aside0.mk (Nat.le_trans HW0.out GW323.out); have NB318_323 := zl BK318 hg; have NB323_318 := zr BK318 hg; have NB0_323 := zL61 HI0 hg; have NB323_0 := zR61 HI0 hg; replace HI0 := zJ61 HI0 hb; replace BK318 := zb BK318 hb; replace HK := zKb HK hb; replace HB := zH61 HB hb; clear hb hbox hg; have hnb9 := NB323_318.out; have hnc9 := NB318_323.out; have hnb10 := NB323_0.out; have hnc10 := NB0_323.out; obtain ⟨_, _, _, _⟩ := zc2 BK323) | ((with_reducible refine gate_callee (f := 61) rfl ?_); refine zG (some 7) Tryz.func61 #[.pointer (some ⟨g, 0, none⟩), .int .i64 14] ?_; (with_reducible refine (spec_l1Cur_pick.calls g s0_0 t321 t322 14 t324 t325 t326 w0 _ ?side1 ?side2 A3.out).mono ?_); (case side1 => exact zI61 HI0); (case side2 => exact zY61 HB); rintro e w12 ⟨rfl, hi, hb, hk⟩; refine ⟨_, rfl, ?_⟩; have n1_ := Aside0.mk (KeepBut.blk hk (g' := gb323) (o := .cells #[.int .i64 t319, .int .i64 t320] 39 (0, 0)) (zw BK323) NB323_0.out zU1_9); replace BK318 := zKB BK318 hk; replace HK := zKt HK hk; replace HB := Aside0.mk hb; replace HI0 := Aside0.mk hi; clear BK323; have BK323 := n1_; clear n1_; clear hb hk hi) | ((with_reducible refine gate_dst (N := 11) rfl ?_); refine Kd.R_lit (Kd.int .i64) _ 3 ?hg (N := 11) ?hd (xs := ([0, (-1), 500, 501, 4611686018427387904] : List Int)) (inner := [.int .i64 0, .int .i64 (-1), .int .i64 500, .int .i64 501, .int .i64 4611686018427387904]) (ok := fun _ => True) (okp := fun _ => True) ?hr ?hp (fun _ hk => hk) trivial (Below.refl _ _) (Nat.le_refl _) zU1_9 ?_; (case hd => rfl); (case hg => rfl); (case hr => first | (go_simp; done) | (go_simp; rfl)); (case hp => exact (Reps.one (show Kd.M (Kd.int .i64) _ _ _ 0 [.int .i64 0] from rfl) (Reps.one (show Kd.M (Kd.int .i64) _ _ _ (-1) [.int .i64 (-1)] from rfl) (Reps.one (show Kd.M (Kd.int .i64) _ _ _ 500 [.int .i64 500] from rfl) (Reps.one (show Kd.M (Kd.int .i64) _ _ _ 501 [.int .i64 501] from rfl) (Reps.one (show Kd.M (Kd.int .i64) _ _ _ 4611686018427387904 [.int .i64 4611686018427387904] from rfl) (Reps.none _ _))))))); intro v328 w13 ho14 hb hg_ hnew_; clear hg_ hnew_; (first | rw [← Ny327.out] at ho14 | (simp only [Int.reduceToNat] at ho14; rw [← Ny327.out] at ho14)); have HO329 := Aside0.mk (Kd.R_lower ho14 (keep_size (w := w) (g := g) (row := none) (zKe HK))); replace HI0 := zJ61 HI0 hb; replace BK318 := zb BK318 hb; replace BK323 := zb BK323 hb; replace HK := zKb HK hb; replace HB := zH61 HB hb; clear hb ho14; obtain ⟨Ao15, co15, eo15⟩ := Kd.R_slice HO329.out; subst eo15) | ((with_reducible refine gate_callee (f := 37) rfl ?_); refine zG (some 12) Tryz.func37 #[.pointer (some ⟨g, 0, none⟩), .slice Ao15 y327.length co15] ?_; (with_reducible refine (spec_l1Cur_among.calls g s0_0 t325 t326 _ _ y327 t330 t331 t332 w0 _ ?side1 ?side2 ?side3 ?side4 ?side5 A5.out).mono ?_); (case side1 => exact zI61 HI0); (case side2 => exact zY61 HB); (case side3 => repeat (first | exact (Kd.R_reads' HO329.out).2.2 | (with_reducible refine Kd.C_alloc ?_ _) | (with_reducible refine Kd.C_drewN ?_ _) | (with_reducible refine Kd.C_drew ?_))); (case side4 => exact (Kd.R_reads' HO329.out).2.1); (case side5 => exact far_slice (IsS61.own_ne HI0.out HO329.out (by decide))); rintro e w16 ⟨rfl, hi, hb, hk⟩; refine ⟨_, rfl, ?_⟩; have n2_ := Aside0.mk (Kd.R_mono (Kd.R_keep (IsS61.apart (show IsS61 w0 _ g s0_0 t325 t326 from (zI61 HI0)) (zs HO329) (by decide)) hk (fun _ h => h.2)) (fun _ h => h.1)); replace BK318 := zKB BK318 hk; replace BK323 := zKB BK323 hk; replace HK := zKt HK hk; replace HB := Aside0.mk hb; replace HI0 := Aside0.mk hi; clear HO329; have HO329 := n2_; clear n2_; clear hb hk hi; obtain ⟨_, _, _, _⟩ := zc2 BK323; have hnb18 := NB318_0.out; have hnc18 := NB0_318.out; obtain ⟨_, _, _, _⟩ := zc2 BK318))
  refine bodyPost_ret (results_cell_row rfl _ _ gb318 39 #[.int .i64 t330, .int .i64 t320] (0, 0) _ rfl (zw BK318) Tryz.underlying39 rfl (by kernel_rfl)) rfl ?_
  exact ⟨zt, (zI61 HI0), zY61 HB, zKe HK⟩
 ·rw [if_neg c4] at H
  have c4b0 := beq_eq_false_iff_ne.mpr c4; have c4b1 := bne_iff_ne.mpr c4
  by_cases c20 : t324 = 1
  ·rw [if_pos c20] at H
   have c20b0 := beq_iff_eq.mpr c20; have c20b1 := bne_eq_false_iff_eq.mpr c20; clear c20
   obtain ⟨y333, hy333⟩ : ∃ y_ : List Int, y_ = (([0, (-1), 6, 200, 201, 4611686018427387904] : List Int)) := ⟨_, rfl⟩
   replace H : ((spec_l1Cur_among.f s0_0 t325 t326 y333).bind fun bt336 => (some (t319, bt336.1, bt336.2.1, bt336.2.2))) = some (r1, r2, r3, r4) := by first | (rw [hy333]; with_reducible exact H) | (have H2_ := (Option.bind_some _ _).symm.trans H; rw [hy333]; with_reducible exact H2_) | (have H2_ := (Option.bind_some _ _).symm.trans H; with_reducible exact H2_) | with_reducible exact H | (rw [hy333]; exact H) | exact H
   have Ny333 := Aside0.mk hy333; clear hy333; obtain ⟨⟨t336, t337, t338⟩, A21, H⟩ := zB H; (try dsimp only at H); simp only [Option.some.injEq, Prod.mk.injEq] at H; obtain ⟨rfl, rfl, rfl, rfl⟩ := H
   go_enter Tryz.func46, Tryz.ntmps46
   go_wp2_with (first | ((with_reducible refine gate_dst (N := 2) rfl ?_); refine zE 2 #[.int .i64 0, .int .i64 0] 39 ?_; intro gb318 hg w22 hbox hb; have BK318 := Aside0.mk (hbox); have GW318 := zKg HK hg; have GE318 := Aside0.mk (Nat.le_trans HW0.out GW318.out); have NB0_318 := zL61 HI0 hg; have NB318_0 := zR61 HI0 hg; replace HI0 := zJ61 HI0 hb; replace HK := zKb HK hb; replace HB := zH61 HB hb; clear hb hbox hg) | ((with_reducible refine gate_callee (f := 67) rfl ?_); refine zG (some 5) Tryz.func67 #[.pointer (some ⟨g, 0, none⟩)] ?_; (with_reducible refine (spec_l1Cur_surePole.calls g s0_0 s0_1 s0_2 t319 t320 t321 t322 w0 _ ?side1 ?side2 A2.out).mono ?_); (case side1 => exact zI61 HI0); (case side2 => exact zY61 HB); rintro e w23 ⟨rfl, hi, hb, hk⟩; refine ⟨_, rfl, ?_⟩; replace BK318 := zKB BK318 hk; replace HK := zKt HK hk; replace HB := Aside0.mk hb; replace HI0 := Aside0.mk hi; clear hb hk hi) | ((with_reducible refine gate_dst (N := 3) rfl ?_); refine zE 3 #[.int .i64 0, .int .i64 0] 39 ?_; intro gb323 hg w24 hbox hb; have BK323 := Aside0.mk (hbox); have GW323 := zKg HK hg; have GE323 := Aside0.mk (Nat.le_trans HW0.out GW323.out); have NB318_323 := zl BK318 hg; have NB323_318 := zr BK318 hg; have NB0_323 := zL61 HI0 hg; have NB323_0 := zR61 HI0 hg; replace HI0 := zJ61 HI0 hb; replace BK318 := zb BK318 hb; replace HK := zKb HK hb; replace HB := zH61 HB hb; clear hb hbox hg; have hnb25 := NB323_318.out; have hnc25 := NB318_323.out; have hnb26 := NB323_0.out; have hnc26 := NB0_323.out; obtain ⟨_, _, _, _⟩ := zc2 BK323) | ((with_reducible refine gate_callee (f := 61) rfl ?_); refine zG (some 7) Tryz.func61 #[.pointer (some ⟨g, 0, none⟩), .int .i64 14] ?_; (with_reducible refine (spec_l1Cur_pick.calls g s0_0 t321 t322 14 t324 t325 t326 w0 _ ?side1 ?side2 A3.out).mono ?_); (case side1 => exact zI61 HI0); (case side2 => exact zY61 HB); rintro e w28 ⟨rfl, hi, hb, hk⟩; refine ⟨_, rfl, ?_⟩; have n1_ := Aside0.mk (KeepBut.blk hk (g' := gb323) (o := .cells #[.int .i64 t319, .int .i64 t320] 39 (0, 0)) (zw BK323) NB323_0.out zU1_9); replace BK318 := zKB BK318 hk; replace HK := zKt HK hk; replace HB := Aside0.mk hb; replace HI0 := Aside0.mk hi; clear BK323; have BK323 := n1_; clear n1_; clear hb hk hi) | ((with_reducible refine gate_dst (N := 17) rfl ?_); refine Kd.R_lit (Kd.int .i64) _ 3 ?hg (N := 17) ?hd (xs := ([0, (-1), 6, 200, 201, 4611686018427387904] : List Int)) (inner := [.int .i64 0, .int .i64 (-1), .int .i64 6, .int .i64 200, .int .i64 201, .int .i64 4611686018427387904]) (ok := fun _ => True) (okp := fun _ => True) ?hr ?hp (fun _ hk => hk) trivial (Below.refl _ _) (Nat.le_refl _) zU1_9 ?_; (case hd => rfl); (case hg => rfl); (case hr => first | (go_simp; done) | (go_simp; rfl)); (case hp => exact (Reps.one (show Kd.M (Kd.int .i64) _ _ _ 0 [.int .i64 0] from rfl) (Reps.one (show Kd.M (Kd.int .i64) _ _ _ (-1) [.int .i64 (-1)] from rfl) (Reps.one (show Kd.M (Kd.int .i64) _ _ _ 6 [.int .i64 6] from rfl) (Reps.one (show Kd.M (Kd.int .i64) _ _ _ 200 [.int .i64 200] from rfl) (Reps.one (show Kd.M (Kd.int .i64) _ _ _ 201 [.int .i64 201] from rfl) (Reps.one (show Kd.M (Kd.int .i64) _ _ _ 4611686018427387904 [.int .i64 4611686018427387904] from rfl) (Reps.none _ _)))))))); intro v334 w29 ho30 hb hg_ hnew_; clear hg_ hnew_; (first | rw [← Ny333.out] at ho30 | (simp only [Int.reduceToNat] at ho30; rw [← Ny333.out] at ho30)); have HO335 := Aside0.mk (Kd.R_lower ho30 (keep_size (w := w) (g := g) (row := none) (zKe HK))); replace HI0 := zJ61 HI0 hb; replace BK318 := zb BK318 hb; replace BK323 := zb BK323 hb; replace HK := zKb HK hb; replace HB := zH61 HB hb; clear hb ho30; obtain ⟨Ao31, co31, eo31⟩ := Kd.R_slice HO335.out; subst eo31) | ((with_reducible refine gate_callee (f := 37) rfl ?_); refine zG (some 18) Tryz.func37 #[.pointer (some ⟨g, 0, none⟩), .slice Ao31 y333.length co31] ?_; (with_reducible refine (spec_l1Cur_among.calls g s0_0 t325 t326 _ _ y333 t336 t337 t338 w0 _ ?side1 ?side2 ?side3 ?side4 ?side5 A21.out).mono ?_); (case side1 => exact zI61 HI0); (case side2 => exact zY61 HB); (case side3 => repeat (first | exact (Kd.R_reads' HO335.out).2.2 | (with_reducible refine Kd.C_alloc ?_ _) | (with_reducible refine Kd.C_drewN ?_ _) | (with_reducible refine Kd.C_drew ?_))); (case side4 => exact (Kd.R_reads' HO335.out).2.1); (case side5 => exact far_slice (IsS61.own_ne HI0.out HO335.out (by decide))); rintro e w32 ⟨rfl, hi, hb, hk⟩; refine ⟨_, rfl, ?_⟩; have n2_ := Aside0.mk (Kd.R_mono (Kd.R_keep (IsS61.apart (show IsS61 w0 _ g s0_0 t325 t326 from (zI61 HI0)) (zs HO335) (by decide)) hk (fun _ h => h.2)) (fun _ h => h.1)); replace BK318 := zKB BK318 hk; replace BK323 := zKB BK323 hk; replace HK := zKt HK hk; replace HB := Aside0.mk hb; replace HI0 := Aside0.mk hi; clear HO335; have HO335 := n2_; clear n2_; clear hb hk hi; obtain ⟨_, _, _, _⟩ := zc2 BK323; have hnb34 := NB318_0.out; have hnc34 := NB0_318.out; obtain ⟨_, _, _, _⟩ := zc2 BK318))
   refine bodyPost_ret (results_cell_row rfl _ _ gb318 39 #[.int .i64 t319, .int .i64 t336] (0, 0) _ rfl (zw BK318) Tryz.underlying39 rfl (by kernel_rfl)) rfl ?_
   exact ⟨zt, (zI61 HI0), zY61 HB, zKe HK⟩
  ·rw [if_neg c20] at H
   have c20b0 := beq_eq_false_iff_ne.mpr c20; have c20b1 := bne_iff_ne.mpr c20; simp only [Option.some.injEq, Prod.mk.injEq] at H; obtain ⟨rfl, rfl, rfl, rfl⟩ := H
   go_enter Tryz.func46, Tryz.ntmps46
   go_wp2_with (first | ((with_reducible refine gate_dst (N := 2) rfl ?_); refine zE 2 #[.int .i64 0, .int .i64 0] 39 ?_; intro gb318 hg w36 hbox hb; have BK318 := Aside0.mk (hbox); have GW318 := zKg HK hg; have GE318 := Aside0.mk (Nat.le_trans HW0.out GW318.out); have NB0_318 := zL61 HI0 hg; have NB318_0 := zR61 HI0 hg; replace HI0 := zJ61 HI0 hb; replace HK := zKb HK hb; replace HB := zH61 HB hb; clear hb hbox hg) | ((with_reducible refine gate_callee (f := 67) rfl ?_); refine zG (some 5) Tryz.func67 #[.pointer (some ⟨g, 0, none⟩)] ?_; (with_reducible refine (spec_l1Cur_surePole.calls g s0_0 s0_1 s0_2 t319 t320 t321 t322 w0 _ ?side1 ?side2 A2.out).mono ?_); (case side1 => exact zI61 HI0); (case side2 => exact zY61 HB); rintro e w37 ⟨rfl, hi, hb, hk⟩; refine ⟨_, rfl, ?_⟩; replace BK318 := zKB BK318 hk; replace HK := zKt HK hk; replace HB := Aside0.mk hb; replace HI0 := Aside0.mk hi; clear hb hk hi) | ((with_reducible refine gate_dst (N := 3) rfl ?_); refine zE 3 #[.int .i64 0, .int .i64 0] 39 ?_; intro gb323 hg w38 hbox hb; have BK323 := Aside0.mk (hbox); have GW323 := zKg HK hg; have GE323 := Aside0.mk (Nat.le_trans HW0.out GW323.out); have NB318_323 := zl BK318 hg; have NB323_318 := zr BK318 hg; have NB0_323 := zL61 HI0 hg; have NB323_0 := zR61 HI0 hg; replace HI0 := zJ61 HI0 hb; replace BK318 := zb BK318 hb; replace HK := zKb HK hb; replace HB := zH61 HB hb; clear hb hbox hg; have hnb39 := NB323_318.out; have hnc39 := NB318_323.out; have hnb40 := NB323_0.out; have hnc40 := NB0_323.out; obtain ⟨_, _, _, _⟩ := zc2 BK323) | ((with_reducible refine gate_callee (f := 61) rfl ?_); refine zG (some 7) Tryz.func61 #[.pointer (some ⟨g, 0, none⟩), .int .i64 14] ?_; (with_reducible refine (spec_l1Cur_pick.calls g s0_0 t321 t322 14 t324 t325 t326 w0 _ ?side1 ?side2 A3.out).mono ?_); (case side1 => exact zI61 HI0); (case side2 => exact zY61 HB); rintro e w42 ⟨rfl, hi, hb, hk⟩; refine ⟨_, rfl, ?_⟩; have n1_ := Aside0.mk (KeepBut.blk hk (g' := gb323) (o := .cells #[.int .i64 t319, .int .i64 t320] 39 (0, 0)) (zw BK323) NB323_0.out zU1_9); replace BK318 := zKB BK318 hk; replace HK := zKt HK hk; replace HB := Aside0.mk hb; replace HI0 := Aside0.mk hi; clear BK323; have BK323 := n1_; clear n1_; clear hb hk hi; obtain ⟨_, _, _, _⟩ := zc2 BK323; have hnb44 := NB318_0.out; have hnc44 := NB0_318.out; obtain ⟨_, _, _, _⟩ := zc2 BK318))
   refine bodyPost_ret (results_cell_row rfl _ _ gb318 39 #[.int .i64 t319, .int .i64 t320] (0, 0) _ rfl (zw BK318) Tryz.underlying39 rfl (by kernel_rfl)) rfl ?_
   exact ⟨zt, (zI61 HI0), zY61 HB, zKe HK⟩


/-! ### spec_DrawIsHidden: function 22 -/
def spec_DrawIsHidden.f (l0 : List Int) : Option (Int × Int × Int × Int × Int) := (spec_l1Cur_lamp.f l0 0 0).bind fun bt342 => ((spec_l1Cur_pole.f l0 bt342.2.1 bt342.2.2).bind fun bt345 => ((spec_l1Cur_pole.f l0 bt345.2.2.1 bt345.2.2.2).bind fun bt350 => (some (bt342.1, bt345.1, bt345.2.1, bt350.1, bt350.2.1))))
theorem spec_DrawIsHidden.calls (A0 : Option Addr) (c0 : Nat) (l0 : List Int) (r1 : Int) (r2 : Int) (r3 : Int) (r4 : Int) (r5 : Int) (w : World) (hr0 : Kd.C (Kd.int .u8) w A0 l0.length l0) (hc0 : l0.length ≤ c0) (h : spec_DrawIsHidden.f l0 = some (r1, r2, r3, r4, r5)) :
 Calls Tryz.prog 22 #[.slice A0 l0.length c0] w fun e w' => e = .returned (.tuple #[.int .i64 r1, .agg #[.int .i64 r2, .int .i64 r3], .agg #[.int .i64 r4, .int .i64 r5]]) ∧ Below w.heap.size w w' := by
 have hu39 := Tryz.underlying39; have hu61 := Tryz.underlying61; have HR0 := Aside0.mk hr0; have HC0 := Aside0.mk hc0; clear hr0 hc0
 have HB := Aside0.mk (Below.refl w.heap.size w)
 have H := h; rw [spec_DrawIsHidden.f] at H; clear h; obtain ⟨⟨t342, t343, t344⟩, A2, H⟩ := zB H; (try dsimp only at H); obtain ⟨⟨t345, t346, t347, t348⟩, A3, H⟩ := zB H; (try dsimp only at H); obtain ⟨⟨t350, t351, t352, t353⟩, A4, H⟩ := zB H; (try dsimp only at H); simp only [Option.some.injEq, Prod.mk.injEq] at H; obtain ⟨rfl, rfl, rfl, rfl, rfl⟩ := H
 go_enter Tryz.func22, Tryz.ntmps22
 try go_wp2_with (first | ((with_reducible refine gate_dst (N := 3) rfl ?_); refine zE 3 #[.int .i64 0, .int .i64 0] 39 ?_; intro gb339 hg w5 hbox hb; have BK339 := Aside0.mk (hbox); have GW339 := zg HB hg; replace HB := zh HB hb; clear hb hbox hg) | ((with_reducible refine gate_dst (N := 4) rfl ?_); refine zE 4 #[.int .i64 0, .int .i64 0] 39 ?_; intro gb340 hg w6 hbox hb; have BK340 := Aside0.mk (hbox); have GW340 := zg HB hg; have NB339_340 := zl BK339 hg; have NB340_339 := zr BK339 hg; replace BK339 := zb BK339 hb; replace HB := zh HB hb; clear hb hbox hg) | ((with_reducible refine gate_dst (N := 10) rfl ?_); refine zE 10 #[.slice A0 l0.length c0, .int .i64 0, .int .u64 0] 61 ?_; intro gb341 hg w7 hbox hb; have HI341 := Aside0.mk ((show IsS61 w _ gb341 l0 0 0 from ⟨_, _, hbox, (by rw [hg]; exact (below_size (zy HB)) : w.heap.size ≤ gb341), HR0.out⟩)); have GW341 := zg HB hg; have NB339_341 := zl BK339 hg; have NB341_339 := zr BK339 hg; have NB340_341 := zl BK340 hg; have NB341_340 := zr BK340 hg; replace BK339 := zb BK339 hb; replace BK340 := zb BK340 hb; replace HB := zh HB hb; clear hb hbox hg) | ((with_reducible refine gate_callee (f := 35) rfl ?_); refine zG (some 12) Tryz.func35 #[.pointer (some ⟨gb341, 0, none⟩)] ?_; (with_reducible refine (spec_l1Cur_lamp.calls gb341 l0 0 0 t342 t343 t344 w _ ?side1 ?side2 A2.out).mono ?_); (case side1 => exact zI61 HI341); (case side2 => exact zY61 HB); rintro e w8 ⟨rfl, hi, hb, hk⟩; refine ⟨_, rfl, ?_⟩; replace BK339 := zKB BK339 hk; replace BK340 := zKB BK340 hk; replace HB := Aside0.mk hb; replace HI341 := Aside0.mk hi; clear hb hk hi) | ((with_reducible refine gate_callee (f := 46) rfl ?_); refine zG (some 14) Tryz.func46 #[.pointer (some ⟨gb341, 0, none⟩)] ?_; (with_reducible refine (spec_l1Cur_pole.calls gb341 l0 t343 t344 t345 t346 t347 t348 w _ ?side1 ?side2 A3.out).mono ?_); (case side1 => exact zI61 HI341); (case side2 => exact zY61 HB); rintro e w9 ⟨rfl, hi, hb, hk⟩; refine ⟨_, rfl, ?_⟩; replace BK339 := zKB BK339 hk; replace BK340 := zKB BK340 hk; replace HB := Aside0.mk hb; replace HI341 := Aside0.mk hi; clear hb hk hi) | ((with_reducible refine gate_dst (N := 7) rfl ?_); refine zE 7 #[.int .i64 0, .int .i64 0] 39 ?_; intro gb349 hg w10 hbox hb; have BK349 := Aside0.mk (hbox); have GW349 := Aside0.mk ((by rw [hg]; exact (below_size (zY61 HB)) : w.heap.size ≤ gb349)); have GE349 := Aside0.mk ((by rw [hg]; exact (below_size (zY61 HB)) : w.heap.size ≤ gb349)); have NB339_349 := zl BK339 hg; have NB349_339 := zr BK339 hg; have NB340_349 := zl BK340 hg; have NB349_340 := zr BK340 hg; have NB341_349 := zL61 HI341 hg; have NB349_341 := zR61 HI341 hg; replace BK339 := zb BK339 hb; replace BK340 := zb BK340 hb; replace HI341 := zJ61 HI341 hb; replace HB := zH61 HB hb; clear hb hbox hg; have hnb11 := NB349_339.out; have hnc11 := NB339_349.out; have hnb12 := NB349_340.out; have hnc12 := NB340_349.out; have hnb13 := NB349_341.out; have hnc13 := NB341_349.out; obtain ⟨_, _, _, _⟩ := zc2 BK349))
 have n0_ : Aside0 (((w10.setCell ⟨gb349, 0, none⟩ (.int .i64 t345)).setCell ⟨gb349, 1, none⟩ (.int .i64 t346)).heap[gb339]? = some (.cells #[.int .i64 0, .int .i64 0] 39 (0, 0))) := ⟨zw BK339⟩
 have n1_ : Aside0 (((w10.setCell ⟨gb349, 0, none⟩ (.int .i64 t345)).setCell ⟨gb349, 1, none⟩ (.int .i64 t346)).heap[gb340]? = some (.cells #[.int .i64 0, .int .i64 0] 39 (0, 0))) := ⟨zw BK340⟩
 have n2_ : Aside0 (((w10.setCell ⟨gb349, 0, none⟩ (.int .i64 t345)).setCell ⟨gb349, 1, none⟩ (.int .i64 t346)).heap[gb349]? = some (.cells #[.int .i64 t345, .int .i64 t346] 39 (0, 0))) := ⟨zw BK349⟩
 have n3_ : Aside0 (IsS61 w ((w10.setCell ⟨gb349, 0, none⟩ (.int .i64 t345)).setCell ⟨gb349, 1, none⟩ (.int .i64 t346)) gb341 l0 t347 t348) := ⟨(zI61 HI341)⟩
 have n4_ : Aside0 (Below w.heap.size w ((w10.setCell ⟨gb349, 0, none⟩ (.int .i64 t345)).setCell ⟨gb349, 1, none⟩ (.int .i64 t346))) := ⟨zY61 HB⟩
 (try clear BK339)
 (try clear BK340)
 (try clear BK349)
 (try clear HI341)
 (try clear HB)
 generalize ((w10.setCell ⟨gb349, 0, none⟩ (.int .i64 t345)).setCell ⟨gb349, 1, none⟩ (.int .i64 t346)) = w15 at n0_ n1_ n2_ n3_ n4_ ⊢
 have BK339 := n0_; have BK340 := n1_; have BK349 := n2_; have HI341 := n3_; have HB := n4_; clear n0_ n1_ n2_ n3_ n4_
 have n3_ := Aside0.mk (IsS61.drew HI341.out)
 replace BK339 := Aside0.mk (blk_drew BK339.out); replace BK340 := Aside0.mk (blk_drew BK340.out); replace BK349 := Aside0.mk (blk_drew BK349.out); replace HB := Aside0.mk (below_drew1 HB.out); clear HI341; have HI341 := n3_; clear n3_
 refine start_ (n := 7) (S := fun w' => w'.cell? ⟨gb349, 0, none⟩ = some (.int .i64 t345) ∧ w'.cell? ⟨gb349, 1, none⟩ = some (.int .i64 t346)) (ds := []) #[false, false, false, false, false, false, false] (by kernel_rfl) rfl rfl ⟨zq0 BK349 0, zq0 BK349 1⟩ (fun hHeld => ?_)
 generalize w15.drew = w16 at BK339 BK340 BK349 HI341 HB hHeld ⊢
 refine zA0 0 15 ?_
 refine zA0 2 17 ?_
 refine zT0 1 16 hHeld ?_
 refine one_ (i := 3) (N := some 18) #[true, true, true, true, false, false, false] rfl rfl (by kernel_rfl) (by decide) (fun K hK => ?_)
 refine goes_ Tryz.func46 (by kernel_rfl) rfl #[.pointer (some ⟨gb341, 0, none⟩)] (by rfl) rfl rfl (by (try simp only [List.map_toArray, List.map_cons, List.map_nil]); first | done | rfl | (simp only [List.length_drop, List.length_take]; rfl)) ?_
 with_reducible refine (spec_l1Cur_pole.calls gb341 l0 t347 t348 t350 t351 t352 t353 w _ ?side1 ?side2 A4.out).mono ?_
 (case side1 => exact zI61 HI341)
 (case side2 => exact zY61 HB)
 rintro e w17 ⟨rfl, hi, hb, hk⟩
 refine ⟨_, rfl, ?_⟩
 replace BK339 := zKB BK339 hk
 replace BK340 := zKB BK340 hk
 replace BK349 := zKB BK349 hk
 replace HB := Aside0.mk hb
 replace HI341 := Aside0.mk hi
 (try clear hb)
 (try clear hb2)
 (try clear hk)
 (try clear hi)
 refine hK.out _ _ ⟨zq0 BK349 0, zq0 BK349 1⟩ (fun hHeld => ?_)
 clear hK K
 refine zN 18 ?_
 refine zA0 4 2 ?_
 refine one_ (i := 5) (N := none) #[true, true, true, true, true, true, false] rfl rfl (by kernel_rfl) (by decide) (fun K hK => ?_)
 have hs18 : w17.cell? ⟨gb339, 0, none⟩ = some (.int .i64 0) := zq0 BK339 0
 have hfs18 := blk_frozen BK339.out 0
 have hns18_1 := NB340_339.out; have hns18_2 := NB349_339.out; have hms18_1 := NB339_340.out; have hms18_2 := NB339_349.out
 have hs19 : w17.cell? ⟨gb339, 1, none⟩ = some (.int .i64 0) := zq0 BK339 1
 have hfs19 := blk_frozen BK339.out 1
 have hns19_1 := NB340_339.out; have hns19_2 := NB349_339.out; have hms19_1 := NB339_340.out; have hms19_2 := NB339_349.out
 refine skip_ (w1 := ?_) (by rfl) rfl ?_ ?_
 rotate_left
 ·go_simp
  rfl
 refine hK.out _ _ ⟨((cell_far (p := ⟨gb339, _, none⟩) NB349_339.out _).trans (((cell_far (p := ⟨gb339, _, none⟩) NB349_339.out _).trans (hHeld.1)))), ((cell_far (p := ⟨gb339, _, none⟩) NB349_339.out _).trans (((cell_far (p := ⟨gb339, _, none⟩) NB349_339.out _).trans (hHeld.2))))⟩ (fun hHeld => ?_)
 clear hK K
 refine one_ (i := 6) (N := none) #[true, true, true, true, true, true, true] rfl rfl (by kernel_rfl) (by decide) (fun K hK => ?_)
 have hs20 : w17.cell? ⟨gb340, 0, none⟩ = some (.int .i64 0) := zq0 BK340 0
 have hfs20 := blk_frozen BK340.out 0
 have hns20_0 := NB339_340.out; have hns20_2 := NB349_340.out; have hms20_0 := NB340_339.out; have hms20_2 := NB340_349.out
 have hs21 : w17.cell? ⟨gb340, 1, none⟩ = some (.int .i64 0) := zq0 BK340 1
 have hfs21 := blk_frozen BK340.out 1
 have hns21_0 := NB339_340.out; have hns21_2 := NB349_340.out; have hms21_0 := NB340_339.out; have hms21_2 := NB340_349.out
 refine skip_ (w1 := ?_) (by rfl) rfl ?_ ?_
 rotate_left
 ·go_simp
  rfl
 refine hK.out _ _ ⟨((cell_far (p := ⟨gb340, _, none⟩) NB349_340.out _).trans (((cell_far (p := ⟨gb340, _, none⟩) NB349_340.out _).trans (hHeld.1)))), ((cell_far (p := ⟨gb340, _, none⟩) NB349_340.out _).trans (((cell_far (p := ⟨gb340, _, none⟩) NB349_340.out _).trans (hHeld.2))))⟩ (fun hHeld => ?_)
 clear hK K
 refine done_ (by kernel_rfl) ?_
 try go_wp2
 refine bodyPost_ret (results_list (rs := [.tmp 2, .cell 3 39, .cell 4 39]) rfl zU1_9 (.tmp (.cell gb339 39 #[.int .i64 t345, .int .i64 t346] (0, 0) _ rfl (zw BK339) Tryz.underlying39 rfl (by kernel_rfl) (.cell gb340 39 #[.int .i64 t350, .int .i64 t351] (0, 0) _ rfl (zw BK340) Tryz.underlying39 rfl (by kernel_rfl) .nil)))) rfl ?_
 exact ⟨zt, zY61 HB⟩


/-! ### spec_IsHidden: function 23 -/
def spec_IsHidden.f (k : Nat) (a0 : Int) (a1_0 : Int) (a1_1 : Int) (a2_0 : Int) (a2_1 : Int) : Option (Bool × Bool) := (spec_swBoth.f a0 a1_0 a1_1).bind fun t356 => (if t356 = true then ((spec_swBoth.f a0 a2_0 a2_1).bind fun t357 => (if t357 = true then ((spec_swHides.f k a0 a1_0 a1_1 a2_0 a2_1).bind fun t358 => (some (t358, true))) else (some (false, false)))) else (some (false, false)))
theorem spec_IsHidden.calls (k : Nat) (a0 : Int) (a1_0 : Int) (a1_1 : Int) (a2_0 : Int) (a2_1 : Int) (r1 : Bool) (r2 : Bool) (w : World) (h : spec_IsHidden.f k a0 a1_0 a1_1 a2_0 a2_1 = some (r1, r2)) :
 Calls Tryz.prog 23 #[.int .i64 a0, .agg #[.int .i64 a1_0, .int .i64 a1_1], .agg #[.int .i64 a2_0, .int .i64 a2_1]] w fun e w' => e = .returned (.tuple #[.bool r1, .bool r2]) ∧ Below w.heap.size w w' := by
 have hu39 := Tryz.underlying39
 have HB := Aside0.mk (Below.refl w.heap.size w)
 have H := h; rw [spec_IsHidden.f] at H; clear h; obtain ⟨t356, A4, H⟩ := zB H; (try dsimp only at H)
 by_cases c5 : t356 = true
 ·subst c5
  rw [if_pos rfl] at H; obtain ⟨t357, A6, H⟩ := zB H; (try dsimp only at H)
  by_cases c7 : t357 = true
  ·subst c7
   rw [if_pos rfl] at H; obtain ⟨t358, A8, H⟩ := zB H; (try dsimp only at H); simp only [Option.some.injEq, Prod.mk.injEq] at H; obtain ⟨rfl, rfl⟩ := H
   go_enter Tryz.func23, Tryz.ntmps23
   go_wp2_with (first | ((with_reducible refine gate_dst (N := 4) rfl ?_); refine zE 4 #[.int .i64 a1_0, .int .i64 a1_1] 39 ?_; intro gb354 hg w9 hbox hb; have BK354 := Aside0.mk (hbox); have GW354 := zg HB hg; replace HB := zh HB hb; clear hb hbox hg) | ((with_reducible refine gate_dst (N := 5) rfl ?_); refine zE 5 #[.int .i64 a2_0, .int .i64 a2_1] 39 ?_; intro gb355 hg w10 hbox hb; have BK355 := Aside0.mk (hbox); have GW355 := zg HB hg; have NB354_355 := zl BK354 hg; have NB355_354 := zr BK354 hg; replace BK354 := zb BK354 hb; replace HB := zh HB hb; clear hb hbox hg; have hnb11 := NB354_355.out; have hnc11 := NB355_354.out; obtain ⟨_, _, _, _⟩ := zc2 BK354) | ((with_reducible refine gate_callee (f := 47) rfl ?_); refine zG (some 10) Tryz.func47 #[.int .i64 a0, .agg #[.int .i64 a1_0, .int .i64 a1_1]] ?_; (with_reducible refine (spec_swBoth.calls a0 a1_0 a1_1 true _ A4.out).mono ?_); rintro e w13 ⟨rfl, hb⟩; refine ⟨_, rfl, ?_⟩; replace BK354 := zb BK354 hb; replace BK355 := zb BK355 hb; replace HB := zh HB hb; clear hb; obtain ⟨_, _, _, _⟩ := zc2 BK355) | (go_at_call 47; (with_reducible refine (spec_swBoth.calls a0 a2_0 a2_1 true _ A6.out).mono ?_); rintro e w15 ⟨rfl, hb⟩; replace BK354 := zb BK354 hb; replace BK355 := zb BK355 hb; replace HB := zh HB hb; clear hb; obtain ⟨_, _, _, _⟩ := zc2 BK354; obtain ⟨_, _, _, _⟩ := zc2 BK355) | ((with_reducible refine gate_callee (f := 42) rfl ?_); refine zG (some 21) Tryz.func42 #[.int .i64 a0, .agg #[.int .i64 a1_0, .int .i64 a1_1], .agg #[.int .i64 a2_0, .int .i64 a2_1]] ?_; (with_reducible refine (spec_swHides.calls k a0 a1_0 a1_1 a2_0 a2_1 t358 _ A8.out).mono ?_); rintro e w18 ⟨rfl, hb⟩; refine ⟨_, rfl, ?_⟩; replace BK354 := zb BK354 hb; replace BK355 := zb BK355 hb; replace HB := zh HB hb; clear hb))
   go_ret2
   exact ⟨zt, zy HB⟩
  ·replace c7 := Bool.eq_false_iff.mpr c7
   subst c7; rw [if_neg (show ¬ (false = true) by decide)] at H; simp only [Option.some.injEq, Prod.mk.injEq] at H; obtain ⟨rfl, rfl⟩ := H
   go_enter Tryz.func23, Tryz.ntmps23
   go_wp2_with (first | ((with_reducible refine gate_dst (N := 4) rfl ?_); refine zE 4 #[.int .i64 a1_0, .int .i64 a1_1] 39 ?_; intro gb354 hg w19 hbox hb; have BK354 := Aside0.mk (hbox); have GW354 := zg HB hg; replace HB := zh HB hb; clear hb hbox hg) | ((with_reducible refine gate_dst (N := 5) rfl ?_); refine zE 5 #[.int .i64 a2_0, .int .i64 a2_1] 39 ?_; intro gb355 hg w20 hbox hb; have BK355 := Aside0.mk (hbox); have GW355 := zg HB hg; have NB354_355 := zl BK354 hg; have NB355_354 := zr BK354 hg; replace BK354 := zb BK354 hb; replace HB := zh HB hb; clear hb hbox hg; have hnb21 := NB354_355.out; have hnc21 := NB355_354.out; obtain ⟨_, _, _, _⟩ := zc2 BK354) | ((with_reducible refine gate_callee (f := 47) rfl ?_); refine zG (some 10) Tryz.func47 #[.int .i64 a0, .agg #[.int .i64 a1_0, .int .i64 a1_1]] ?_; (with_reducible refine (spec_swBoth.calls a0 a1_0 a1_1 true _ A4.out).mono ?_); rintro e w23 ⟨rfl, hb⟩; refine ⟨_, rfl, ?_⟩; replace BK354 := zb BK354 hb; replace BK355 := zb BK355 hb; replace HB := zh HB hb; clear hb; obtain ⟨_, _, _, _⟩ := zc2 BK355) | (go_at_call 47; (with_reducible refine (spec_swBoth.calls a0 a2_0 a2_1 false _ A6.out).mono ?_); rintro e w25 ⟨rfl, hb⟩; replace BK354 := zb BK354 hb; replace BK355 := zb BK355 hb; replace HB := zh HB hb; clear hb))
   go_ret2
   exact ⟨zt, zy HB⟩
 ·replace c5 := Bool.eq_false_iff.mpr c5
  subst c5; rw [if_neg (show ¬ (false = true) by decide)] at H; simp only [Option.some.injEq, Prod.mk.injEq] at H; obtain ⟨rfl, rfl⟩ := H
  go_enter Tryz.func23, Tryz.ntmps23
  go_wp2_with (first | ((with_reducible refine gate_dst (N := 4) rfl ?_); refine zE 4 #[.int .i64 a1_0, .int .i64 a1_1] 39 ?_; intro gb354 hg w26 hbox hb; have BK354 := Aside0.mk (hbox); have GW354 := zg HB hg; replace HB := zh HB hb; clear hb hbox hg) | ((with_reducible refine gate_dst (N := 5) rfl ?_); refine zE 5 #[.int .i64 a2_0, .int .i64 a2_1] 39 ?_; intro gb355 hg w27 hbox hb; have BK355 := Aside0.mk (hbox); have GW355 := zg HB hg; have NB354_355 := zl BK354 hg; have NB355_354 := zr BK354 hg; replace BK354 := zb BK354 hb; replace HB := zh HB hb; clear hb hbox hg; have hnb28 := NB354_355.out; have hnc28 := NB355_354.out; obtain ⟨_, _, _, _⟩ := zc2 BK354) | ((with_reducible refine gate_callee (f := 47) rfl ?_); refine zG (some 10) Tryz.func47 #[.int .i64 a0, .agg #[.int .i64 a1_0, .int .i64 a1_1]] ?_; (with_reducible refine (spec_swBoth.calls a0 a1_0 a1_1 false _ A4.out).mono ?_); rintro e w30 ⟨rfl, hb⟩; refine ⟨_, rfl, ?_⟩; replace BK354 := zb BK354 hb; replace BK355 := zb BK355 hb; replace HB := zh HB hb; clear hb))
  go_ret2
  exact ⟨zt, zy HB⟩


/-! ### spec_DrawWholeShadows: function 24 -/
def spec_DrawWholeShadows.f (l0 : List Int) : Option (Int) := (spec_l1Cur_among.f l0 0 0 (([2, 3, 4, 6, 9, 12, 40, 41, 1, (-1)] : List Int))).bind fun bt363 => (some bt363.1)
theorem spec_DrawWholeShadows.calls (A0 : Option Addr) (c0 : Nat) (l0 : List Int) (r : Int) (w : World) (hr0 : Kd.C (Kd.int .u8) w A0 l0.length l0) (hc0 : l0.length ≤ c0) (h : spec_DrawWholeShadows.f l0 = some r) :
 Calls Tryz.prog 24 #[.slice A0 l0.length c0] w fun e w' => e = .returned (.int .i64 r) ∧ Below w.heap.size w w' := by
 have hu61 := Tryz.underlying61; have HR0 := Aside0.mk hr0; have HC0 := Aside0.mk hc0; clear hr0 hc0
 have HB := Aside0.mk (Below.refl w.heap.size w)
 have H := h; rw [spec_DrawWholeShadows.f] at H; clear h
 obtain ⟨y360, hy360⟩ : ∃ y_ : List Int, y_ = (([2, 3, 4, 6, 9, 12, 40, 41, 1, (-1)] : List Int)) := ⟨_, rfl⟩
 replace H : ((spec_l1Cur_among.f l0 0 0 y360).bind fun bt363 => (some bt363.1)) = some r := by first | (rw [hy360]; with_reducible exact H) | (have H2_ := (Option.bind_some _ _).symm.trans H; rw [hy360]; with_reducible exact H2_) | (have H2_ := (Option.bind_some _ _).symm.trans H; with_reducible exact H2_) | with_reducible exact H | (rw [hy360]; exact H) | exact H
 have Ny360 := Aside0.mk hy360; clear hy360; obtain ⟨⟨t363, t364, t365⟩, A2, H⟩ := zB H; (try dsimp only at H)
 obtain rfl := Option.some.inj H
 go_enter Tryz.func24, Tryz.ntmps24
 go_wp2_with (first | ((with_reducible refine gate_dst (N := 6) rfl ?_); refine zE 6 #[.slice A0 l0.length c0, .int .i64 0, .int .u64 0] 61 ?_; intro gb359 hg w3 hbox hb; have HI359 := Aside0.mk ((show IsS61 w _ gb359 l0 0 0 from ⟨_, _, hbox, (by rw [hg]; exact (below_size (zy HB)) : w.heap.size ≤ gb359), HR0.out⟩)); have GW359 := zg HB hg; replace HB := zh HB hb; clear hb hbox hg) | ((with_reducible refine gate_dst (N := 8) rfl ?_); refine Kd.R_lit (Kd.int .i64) _ 3 ?hg (N := 8) ?hd (xs := ([2, 3, 4, 6, 9, 12, 40, 41, 1, (-1)] : List Int)) (inner := [.int .i64 2, .int .i64 3, .int .i64 4, .int .i64 6, .int .i64 9, .int .i64 12, .int .i64 40, .int .i64 41, .int .i64 1, .int .i64 (-1)]) (ok := fun _ => True) (okp := fun _ => True) ?hr ?hp (fun _ hk => hk) trivial (Below.refl _ _) (Nat.le_refl _) zU1_9 ?_; (case hd => rfl); (case hg => rfl); (case hr => first | (go_simp; done) | (go_simp; rfl)); (case hp => exact (Reps.one (show Kd.M (Kd.int .i64) _ _ _ 2 [.int .i64 2] from rfl) (Reps.one (show Kd.M (Kd.int .i64) _ _ _ 3 [.int .i64 3] from rfl) (Reps.one (show Kd.M (Kd.int .i64) _ _ _ 4 [.int .i64 4] from rfl) (Reps.one (show Kd.M (Kd.int .i64) _ _ _ 6 [.int .i64 6] from rfl) (Reps.one (show Kd.M (Kd.int .i64) _ _ _ 9 [.int .i64 9] from rfl) (Reps.one (show Kd.M (Kd.int .i64) _ _ _ 12 [.int .i64 12] from rfl) (Reps.one (show Kd.M (Kd.int .i64) _ _ _ 40 [.int .i64 40] from rfl) (Reps.one (show Kd.M (Kd.int .i64) _ _ _ 41 [.int .i64 41] from rfl) (Reps.one (show Kd.M (Kd.int .i64) _ _ _ 1 [.int .i64 1] from rfl) (Reps.one (show Kd.M (Kd.int .i64) _ _ _ (-1) [.int .i64 (-1)] from rfl) (Reps.none _ _)))))))))))); intro v361 w4 ho5 hb hg_ hnew_; clear hg_ hnew_; (first | rw [← Ny360.out] at ho5 | (simp only [Int.reduceToNat] at ho5; rw [← Ny360.out] at ho5)); have HO362 := Aside0.mk (Kd.R_lower ho5 (below_size (zY61 HB))); replace HI359 := zJ61 HI359 hb; replace HB := zH61 HB hb; clear hb ho5; obtain ⟨Ao6, co6, eo6⟩ := Kd.R_slice HO362.out; subst eo6) | ((with_reducible refine gate_callee (f := 37) rfl ?_); refine zG (some 9) Tryz.func37 #[.pointer (some ⟨gb359, 0, none⟩), .slice Ao6 y360.length co6] ?_; (with_reducible refine (spec_l1Cur_among.calls gb359 l0 0 0 _ _ y360 t363 t364 t365 w _ ?side1 ?side2 ?side3 ?side4 ?side5 A2.out).mono ?_); (case side1 => exact zI61 HI359); (case side2 => exact zY61 HB); (case side3 => repeat (first | exact (Kd.R_reads' HO362.out).2.2 | (with_reducible refine Kd.C_alloc ?_ _) | (with_reducible refine Kd.C_drewN ?_ _) | (with_reducible refine Kd.C_drew ?_))); (case side4 => exact (Kd.R_reads' HO362.out).2.1); (case side5 => exact far_slice (IsS61.own_ne HI359.out HO362.out (by decide))); rintro e w7 ⟨rfl, hi, hb, hk⟩; refine ⟨_, rfl, ?_⟩; have n0_ := Aside0.mk (Kd.R_mono (Kd.R_keep (IsS61.apart (show IsS61 w _ gb359 l0 0 0 from (zI61 HI359)) (zs HO362) (by decide)) hk (fun _ h => h.2)) (fun _ h => h.1)); replace HB := Aside0.mk hb; replace HI359 := Aside0.mk hi; clear HO362; have HO362 := n0_; clear n0_; clear hb hk hi))
 go_ret
 exact ⟨zt, zY61 HB⟩


/-! ### impl_WholeShadows: function 25 -/
mutual
def impl_WholeShadows.l0 : Nat → Int → List (List Int) → Int → Option ((List (List Int)) × Bool)
 | 0, _, _, _ => none
 | k + 1, x0, x4, x5 => if x5 ≤ 12 then (impl_WholeShadows.l1 k x0 x4 x5 1) else (some (x4, true))
def impl_WholeShadows.l1 : Nat → Int → List (List Int) → Int → Int → Option ((List (List Int)) × Bool)
 | 0, _, _, _, _ => none
 | k + 1, x0, x4, x5, x6 => if x6 < x0 then (if (wrap64 (x0 - x6)) = 0 then (none) else (if (Int.tmod (wrap64 (x5 * x6)) (wrap64 (x0 - x6))) = 0 then (if (wrap64 (Int.tdiv (wrap64 (x5 * x6)) (wrap64 (x0 - x6)))) ≤ 12 then (if x4.length < 5864062014805 then (impl_WholeShadows.l1 k x0 (x4 ++ [(([x5, x6, wrap64 (Int.tdiv (wrap64 (x5 * x6)) (wrap64 (x0 - x6)))] : List Int))]) x5 (wrap64 (x6 + 1))) else (none)) else (impl_WholeShadows.l1 k x0 x4 x5 (wrap64 (x6 + 1)))) else (impl_WholeShadows.l1 k x0 x4 x5 (wrap64 (x6 + 1))))) else (impl_WholeShadows.l0 k x0 x4 (wrap64 (x5 + 1)))
end
def impl_WholeShadows.f (k : Nat) (a0 : Int) : Option ((List (List Int)) × Bool) := (impl_within.f a0 2 40).bind fun t366 => (if t366 = true then (impl_WholeShadows.l0 k a0 (([] : List (List Int))) 1) else (some (([] : List (List Int)), false)))
theorem impl_WholeShadows.calls (k : Nat) (a0 : Int) (r1 : List (List Int)) (r2 : Bool) (w : World) (h : impl_WholeShadows.f k a0 = some (r1, r2)) :
 Calls Tryz.prog 25 #[.int .i64 a0] w fun e w' => ∃ v0_ : Value, e = .returned (.tuple #[v0_, .bool r2]) ∧ Kd.S (Kd.slice 3 (Kd.int .i64)) 27 w' w.heap.size (fun _ => True) v0_ r1 ∧ Below w.heap.size w w' := by
 have HB := Aside0.mk (Below.refl w.heap.size w)
 have H := h; rw [impl_WholeShadows.f] at H; clear h; obtain ⟨t366, A2, H⟩ := zB H; (try dsimp only at H)
 by_cases c3 : t366 = true
 ·subst c3
  rw [if_pos rfl] at H
  obtain ⟨y367, hy367⟩ : ∃ y_ : List (List Int), y_ = (([] : List (List Int))) := ⟨_, rfl⟩
  replace H : (impl_WholeShadows.l0 k a0 y367 1) = some (r1, r2) := by first | (rw [hy367]; with_reducible exact H) | (have H2_ := (Option.bind_some _ _).symm.trans H; rw [hy367]; with_reducible exact H2_) | (have H2_ := (Option.bind_some _ _).symm.trans H; with_reducible exact H2_) | with_reducible exact H | (rw [hy367]; exact H) | exact H
  have Ny367 := Aside0.mk hy367; clear hy367; have H' := Aside0.mk H; clear H
  go_enter Tryz.func25, Tryz.ntmps25
  go_wp2_with (first | ((with_reducible refine gate_callee (f := 38) rfl ?_); refine zG (some 9) Tryz.func38 #[.int .i64 a0, .int .i64 2, .int .i64 40] ?_; (with_reducible refine (impl_within.calls a0 2 40 true _ A2.out).mono ?_); rintro e w' ⟨rfl, ⟨nd, rfl⟩⟩; refine ⟨_, rfl, ?_⟩) | ((with_reducible refine gate_dst (N := 11) rfl ?_); refine Kd.S_lit (Kd.slice 3 (Kd.int .i64)) _ 27 ?hg (N := 11) ?hd (xs := ([] : List (List Int))) (inner := []) (ok := fun _ => True) (okp := fun _ => True) ?hr ?hp (fun _ hk => hk) trivial (Below.refl _ _) (Nat.le_refl _) zU1_9 ?_; (case hd => rfl); (case hg => rfl); (case hr => first | (go_simp; done) | (go_simp; rfl)); (case hp => exact (Reps.none _ _)); intro v368 w4 ho5 hb hg_ hnew_; clear hg_ hnew_; (first | rw [← Ny367.out] at ho5 | (simp only [Int.reduceToNat] at ho5; rw [← Ny367.out] at ho5)); have HO369 := Aside0.mk (Kd.S_lower ho5 (below_size (zy HB))); replace HB := zh HB hb; clear hb ho5))
  go_loopg [4, 5] k (fun kq v4 v5 w' => ∃ (x4_1 : List (List Int)) (x5_1 : Int), v5 = .int .i64 x5_1 ∧ Aside0 (impl_WholeShadows.l0 kq a0 x4_1 x5_1 = some (r1, r2)) ∧ Aside0 (kq ≤ k) ∧ Aside0 (Kd.S (Kd.slice 3 (Kd.int .i64)) 27 w' w.heap.size (fun _ => True) v4 x4_1) ∧ Aside0 (Below w.heap.size w w'))
  case atStart => exact ⟨(y367), (1), zu, H', ⟨Nat.le_refl _⟩, ⟨by (with_reducible repeat (first | apply Kd.S_alloc | apply Kd.S_drewN | apply Kd.S_drew)); exact HO369.out⟩, ⟨zy HB⟩⟩
  case round =>
   clear H'
   obtain ⟨x4_1, x5_1, rfl, HA, HK1, HO_4, HB⟩ := hrel
   cases gk with
   | zero => exact absurd HA.out (by simp [impl_WholeShadows.l0])
   | succ k1 =>
    have H := HA.out; clear HA; simp only [impl_WholeShadows.l0] at H
    by_cases c6 : x5_1 ≤ 12
    ·rw [if_pos c6] at H
     have c6b0 := decide_eq_true c6; clear c6; have H' := Aside0.mk H; clear H
     go_wp2
     go_loopg [4, 6] k1 (fun kq v4 v6 w' => ∃ (x4_2 : List (List Int)) (x6_2 : Int), v6 = .int .i64 x6_2 ∧ Aside0 (impl_WholeShadows.l1 kq a0 x4_2 x5_1 x6_2 = some (r1, r2)) ∧ Aside0 (kq ≤ k1) ∧ Aside0 (Kd.S (Kd.slice 3 (Kd.int .i64)) 27 w' w.heap.size (fun _ => True) v4 x4_2) ∧ Aside0 (Below w.heap.size w w'))
     case atStart => exact ⟨(x4_1), (1), zu, H', ⟨Nat.le_refl _⟩, ⟨by (with_reducible repeat (first | apply Kd.S_alloc | apply Kd.S_drewN | apply Kd.S_drew)); exact HO_4.out⟩, ⟨zy HB⟩⟩
     case round =>
      clear H'
      obtain ⟨x4_2, x6_2, rfl, HA, HK2, HO_4, HB⟩ := hrel
      cases gk with
      | zero => exact absurd HA.out (by simp [impl_WholeShadows.l1])
      | succ k2 =>
       have H := HA.out; clear HA; simp only [impl_WholeShadows.l1] at H
       by_cases c7 : x6_2 < a0
       ·rw [if_pos c7] at H
        have c7b0 := decide_eq_true c7; clear c7
        by_cases c8 : (wrap64 (a0 - x6_2)) = 0
        ·rw [if_pos c8] at H
         exact absurd H zU1_9
        ·rw [if_neg c8] at H
         have c8b0 := beq_eq_false_iff_ne.mpr c8; have c8b1 := bne_iff_ne.mpr c8
         by_cases c9 : (Int.tmod (wrap64 (x5_1 * x6_2)) (wrap64 (a0 - x6_2))) = 0
         ·rw [if_pos c9] at H
          have c9b0 := beq_iff_eq.mpr c9; have c9b1 := bne_eq_false_iff_eq.mpr c9; clear c9
          by_cases c10 : (wrap64 (Int.tdiv (wrap64 (x5_1 * x6_2)) (wrap64 (a0 - x6_2)))) ≤ 12
          ·rw [if_pos c10] at H
           have c10b0 := decide_eq_true c10; clear c10
           obtain ⟨y370, hy370⟩ : ∃ y_ : List Int, y_ = (([x5_1, x6_2, wrap64 (Int.tdiv (wrap64 (x5_1 * x6_2)) (wrap64 (a0 - x6_2)))] : List Int)) := ⟨_, rfl⟩
           replace H : (if x4_2.length < 5864062014805 then (impl_WholeShadows.l1 k2 a0 (x4_2 ++ [y370]) x5_1 (wrap64 (x6_2 + 1))) else (none)) = some (r1, r2) := by first | (rw [hy370]; with_reducible exact H) | (have H2_ := (Option.bind_some _ _).symm.trans H; rw [hy370]; with_reducible exact H2_) | (have H2_ := (Option.bind_some _ _).symm.trans H; with_reducible exact H2_) | with_reducible exact H | (rw [hy370]; exact H) | exact H
           have Ny370 := Aside0.mk hy370; clear hy370
           by_cases c11 : x4_2.length < 5864062014805
           ·rw [if_pos c11] at H
            have LMc11 := Aside0.mk c11; clear c11
            obtain ⟨y373, hy373⟩ : ∃ y_ : List (List Int), y_ = (x4_2 ++ [y370]) := ⟨_, rfl⟩
            replace H : (impl_WholeShadows.l1 k2 a0 y373 x5_1 (wrap64 (x6_2 + 1))) = some (r1, r2) := by first | (rw [hy373]; with_reducible exact H) | (have H2_ := (Option.bind_some _ _).symm.trans H; rw [hy373]; with_reducible exact H2_) | (have H2_ := (Option.bind_some _ _).symm.trans H; with_reducible exact H2_) | with_reducible exact H | (rw [hy373]; exact H) | exact H
            have Ny373 := Aside0.mk hy373; clear hy373; have H' := Aside0.mk H; clear H
            go_wp2_with (first | ((with_reducible refine gate_dst (N := 44) rfl ?_); refine Kd.R_lit (Kd.int .i64) _ 3 ?hg (N := 44) ?hd (xs := ([x5_1, x6_2, wrap64 (Int.tdiv (wrap64 (x5_1 * x6_2)) (wrap64 (a0 - x6_2)))] : List Int)) (inner := [.int .i64 x5_1, .int .i64 x6_2, .int .i64 (wrap64 (Int.tdiv (wrap64 (x5_1 * x6_2)) (wrap64 (a0 - x6_2))))]) (ok := fun _ => True) (okp := fun _ => True) ?hr ?hp (fun _ hk => hk) trivial (Below.refl _ _) (Nat.le_refl _) zU1_9 ?_; (case hd => rfl); (case hg => rfl); (case hr => first | (go_simp; done) | (go_simp; rfl)); (case hp => exact (Reps.one (show Kd.M (Kd.int .i64) _ _ _ x5_1 [.int .i64 x5_1] from rfl) (Reps.one (show Kd.M (Kd.int .i64) _ _ _ x6_2 [.int .i64 x6_2] from rfl) (Reps.one (show Kd.M (Kd.int .i64) _ _ _ (wrap64 (Int.tdiv (wrap64 (x5_1 * x6_2)) (wrap64 (a0 - x6_2)))) [.int .i64 (wrap64 (Int.tdiv (wrap64 (x5_1 * x6_2)) (wrap64 (a0 - x6_2))))] from rfl) (Reps.none _ _))))); intro v371 w12 ho13 hb hg_ hnew_; clear hg_ hnew_; (first | rw [← Ny370.out] at ho13 | (simp only [Int.reduceToNat] at ho13; rw [← Ny370.out] at ho13)); have n0_ := Aside0.mk (Kd.S_elder' zU1_7 (Kd.R_base ho13) hb); have HO372 := Aside0.mk (Kd.R_lower ho13 (below_size (zy HB))); replace HB := zh HB hb; clear HO_4; have HO_4 := n0_; clear n0_; clear hb ho13; obtain ⟨Ao15, co15, eo15⟩ := Kd.R_slice HO372.out; subst eo15) | ((with_reducible refine gate_builtin (b := .append) (xs := #[.tmp 40, .tmp 45]) rfl ?_); at_builtin; refine Kd.S_append (Kd.slice 3 (Kd.int .i64)) (w0 := w) w.heap.size rfl (.tmp 40) (.tmp 45) 47 27 (.slice none 0 0) 24 rfl Tryz.underlying47 info27 rfl (by decide) (by omega) u4 x4_2 y370 [.slice Ao15 y370.length co15] (fun _ => True) (fun k_ => some k_ = (.slice Ao15 y370.length co15 : Value).ownBlock) rfl rfl ?aP (fun k_ hk_ => ((Kd.R_mono (ok' := fun k_ => ((fun _ => True)) k_ ∧ some k_ ≠ (u4 : Value).ownBlock) (Kd.R_apart' (HO372.out) (Kd.S_typed HO_4.out) (by decide)) (fun k_ hk => ⟨trivial, hk.2⟩))).1 k_ hk_.symm) ?aF ?aO ?aB ?aS ?aL ?_; (case aP => exact Kd.M_row (Kd.R_mono (Kd.R_tight rfl (Kd.R_mono (ok' := fun k_ => ((fun _ => True)) k_ ∧ some k_ ≠ (u4 : Value).ownBlock) (Kd.R_apart' (HO372.out) (Kd.S_typed HO_4.out) (by decide)) (fun k_ hk => ⟨trivial, hk.2⟩))) (fun _ h_ => h_))); (case aB => exact (zy HB)); (case aF => exact (fun _ _ => trivial)); (case aO => exact zU1_0); (case aS => exact (below_size (zy HB))); (case aL => have := LMc11.out; omega); intro v374 w14 ho hb hg hat; rw [← Ny373.out] at ho; have HO375 := Aside0.mk (ho); replace HB := Aside0.mk hb; clear HO_4 HO372; clear ho hb hg hat))
            go_roundg k2
            case measure => have := HK1.out; have := HK2.out; omega
            case rel => exact ⟨(y373), (wrap64 (x6_2 + 1)), zu, H', ⟨by have := HK1.out; have := HK2.out; omega⟩, ⟨by (with_reducible repeat (first | apply Kd.S_alloc | apply Kd.S_drewN | apply Kd.S_drew)); exact HO375.out⟩, ⟨zy HB⟩⟩
           ·rw [if_neg c11] at H
            exact absurd H zU1_9
          ·rw [if_neg c10] at H
           have c10b0 := decide_eq_false c10; clear c10; have H' := Aside0.mk H; clear H
           go_wp2
           go_roundg k2
           case measure => have := HK1.out; have := HK2.out; omega
           case rel => exact ⟨(x4_2), (wrap64 (x6_2 + 1)), zu, H', ⟨by have := HK1.out; have := HK2.out; omega⟩, ⟨by (with_reducible repeat (first | apply Kd.S_alloc | apply Kd.S_drewN | apply Kd.S_drew)); exact HO_4.out⟩, ⟨zy HB⟩⟩
         ·rw [if_neg c9] at H
          have c9b0 := beq_eq_false_iff_ne.mpr c9; have c9b1 := bne_iff_ne.mpr c9; have H' := Aside0.mk H; clear H
          go_wp2
          go_roundg k2
          case measure => have := HK1.out; have := HK2.out; omega
          case rel => exact ⟨(x4_2), (wrap64 (x6_2 + 1)), zu, H', ⟨by have := HK1.out; have := HK2.out; omega⟩, ⟨by (with_reducible repeat (first | apply Kd.S_alloc | apply Kd.S_drewN | apply Kd.S_drew)); exact HO_4.out⟩, ⟨zy HB⟩⟩
       ·rw [if_neg c7] at H
        have c7b0 := decide_eq_false c7; clear c7; have H' := Aside0.mk H; clear H
        go_wp2
        go_roundg k2
        case measure => have := HK1.out; have := HK2.out; omega
        case rel => exact ⟨(x4_2), (wrap64 (x5_1 + 1)), zu, H', ⟨by have := HK1.out; have := HK2.out; omega⟩, ⟨by (with_reducible repeat (first | apply Kd.S_alloc | apply Kd.S_drewN | apply Kd.S_drew)); exact HO_4.out⟩, ⟨zy HB⟩⟩
    ·rw [if_neg c6] at H
     have c6b0 := decide_eq_false c6; clear c6; simp only [Option.some.injEq, Prod.mk.injEq] at H; obtain ⟨rfl, rfl⟩ := H
     go_wp2
     go_ret2
     exact ⟨_, zt, by (with_reducible repeat (first | apply Kd.S_alloc | apply Kd.S_drewN | apply Kd.S_drew)); exact HO_4.out, zy HB⟩
 ·replace c3 := Bool.eq_false_iff.mpr c3
  subst c3; rw [if_neg (show ¬ (false = true) by decide)] at H; simp only [Option.some.injEq, Prod.mk.injEq] at H; obtain ⟨rfl, rfl⟩ := H
  go_enter Tryz.func25, Tryz.ntmps25
  go_wp2_with (first | ((with_reducible refine gate_callee (f := 38) rfl ?_); refine zG (some 9) Tryz.func38 #[.int .i64 a0, .int .i64 2, .int .i64 40] ?_; (with_reducible refine (impl_within.calls a0 2 40 false _ A2.out).mono ?_); rintro e w' ⟨rfl, ⟨nd, rfl⟩⟩; refine ⟨_, rfl, ?_⟩))
  go_ret2
  exact ⟨_, zt, by first | exact Kd.S_nil _ _ _ _ _ | exact Kd.N_nil _ _ _ _ _ | exact Kd.V_nil _ _ _ _ _ | exact Kd.Q_nil _ _ _ _ _ | exact Kd.R_nil _ _ _ _ _, zy HB⟩


/-! ### spec_WholeShadows: function 26 -/
mutual
def spec_WholeShadows.l0 : Nat → Int → List (List Int) → Int → Option ((List (List Int)) × Bool)
 | 0, _, _, _ => none
 | k + 1, x0, x4, x5 => if x5 ≤ 12 then (spec_WholeShadows.l1 k x0 x4 x5 1) else (some (x4, true))
def spec_WholeShadows.l1 : Nat → Int → List (List Int) → Int → Int → Option ((List (List Int)) × Bool)
 | 0, _, _, _, _ => none
 | k + 1, x0, x4, x5, x6 => if x6 < x0 then ((spec_clLow.f k (wrap64 (x5 * x6)) (wrap64 (x0 - x6))).bind fun bt377 => (if bt377.2 = 1 then (if bt377.1 ≤ 12 then (if x4.length < 5864062014805 then (spec_WholeShadows.l1 k x0 (x4 ++ [(([x5, x6, bt377.1] : List Int))]) x5 (wrap64 (x6 + 1))) else (none)) else (spec_WholeShadows.l1 k x0 x4 x5 (wrap64 (x6 + 1)))) else (spec_WholeShadows.l1 k x0 x4 x5 (wrap64 (x6 + 1))))) else (spec_WholeShadows.l0 k x0 x4 (wrap64 (x5 + 1)))
end
def spec_WholeShadows.f (k : Nat) (a0 : Int) : Option ((List (List Int)) × Bool) := (spec_l1In.f a0 2 40).bind fun t376 => (if t376 = true then (spec_WholeShadows.l0 k a0 ([] : List (List Int)) 1) else (some (([] : List (List Int)), false)))
theorem spec_WholeShadows.calls (k : Nat) (a0 : Int) (r1 : List (List Int)) (r2 : Bool) (w : World) (h : spec_WholeShadows.f k a0 = some (r1, r2)) :
 Calls Tryz.prog 26 #[.int .i64 a0] w fun e w' => ∃ v0_ : Value, e = .returned (.tuple #[v0_, .bool r2]) ∧ Kd.S (Kd.slice 3 (Kd.int .i64)) 27 w' w.heap.size (fun _ => True) v0_ r1 ∧ Below w.heap.size w w' := by
 have HB := Aside0.mk (Below.refl w.heap.size w)
 have H := h; rw [spec_WholeShadows.f] at H; clear h; obtain ⟨t376, A2, H⟩ := zB H; (try dsimp only at H)
 by_cases c3 : t376 = true
 ·subst c3
  rw [if_pos rfl] at H; have H' := Aside0.mk H; clear H
  go_enter Tryz.func26, Tryz.ntmps26
  go_wp2_with (first | ((with_reducible refine gate_callee (f := 40) rfl ?_); refine zG (some 10) Tryz.func40 #[.int .i64 a0, .int .i64 2, .int .i64 40] ?_; (with_reducible refine (spec_l1In.calls a0 2 40 true _ A2.out).mono ?_); rintro e w' ⟨rfl, ⟨nd, rfl⟩⟩; refine ⟨_, rfl, ?_⟩))
  go_loopg [4, 5] k (fun kq v4 v5 w' => ∃ (x4_1 : List (List Int)) (x5_1 : Int), v5 = .int .i64 x5_1 ∧ Aside0 (spec_WholeShadows.l0 kq a0 x4_1 x5_1 = some (r1, r2)) ∧ Aside0 (kq ≤ k) ∧ Aside0 (Kd.S (Kd.slice 3 (Kd.int .i64)) 27 w' w.heap.size (fun _ => True) v4 x4_1) ∧ Aside0 (Below w.heap.size w w'))
  case atStart => exact ⟨(([] : List (List Int))), (1), zu, H', ⟨Nat.le_refl _⟩, ⟨by first | exact Kd.S_nil _ _ _ _ _ | exact Kd.N_nil _ _ _ _ _ | exact Kd.V_nil _ _ _ _ _ | exact Kd.Q_nil _ _ _ _ _ | exact Kd.R_nil _ _ _ _ _⟩, ⟨zy HB⟩⟩
  case round =>
   clear H'
   obtain ⟨x4_1, x5_1, rfl, HA, HK1, HO_4, HB⟩ := hrel
   cases gk with
   | zero => exact absurd HA.out (by simp [spec_WholeShadows.l0])
   | succ k1 =>
    have H := HA.out; clear HA; simp only [spec_WholeShadows.l0] at H
    by_cases c4 : x5_1 ≤ 12
    ·rw [if_pos c4] at H
     have c4b0 := decide_eq_true c4; clear c4; have H' := Aside0.mk H; clear H
     go_wp2
     go_loopg [4, 6] k1 (fun kq v4 v6 w' => ∃ (x4_2 : List (List Int)) (x6_2 : Int), v6 = .int .i64 x6_2 ∧ Aside0 (spec_WholeShadows.l1 kq a0 x4_2 x5_1 x6_2 = some (r1, r2)) ∧ Aside0 (kq ≤ k1) ∧ Aside0 (Kd.S (Kd.slice 3 (Kd.int .i64)) 27 w' w.heap.size (fun _ => True) v4 x4_2) ∧ Aside0 (Below w.heap.size w w'))
     case atStart => exact ⟨(x4_1), (1), zu, H', ⟨Nat.le_refl _⟩, ⟨by (with_reducible repeat (first | apply Kd.S_alloc | apply Kd.S_drewN | apply Kd.S_drew)); exact HO_4.out⟩, ⟨zy HB⟩⟩
     case round =>
      clear H'
      obtain ⟨x4_2, x6_2, rfl, HA, HK2, HO_4, HB⟩ := hrel
      cases gk with
      | zero => exact absurd HA.out (by simp [spec_WholeShadows.l1])
      | succ k2 =>
       have H := HA.out; clear HA; simp only [spec_WholeShadows.l1] at H
       by_cases c5 : x6_2 < a0
       ·rw [if_pos c5] at H
        have c5b0 := decide_eq_true c5; clear c5; obtain ⟨⟨t377, t378⟩, A6, H⟩ := zB H; (try dsimp only at H)
        by_cases c7 : t378 = 1
        ·rw [if_pos c7] at H
         have c7b0 := beq_iff_eq.mpr c7; have c7b1 := bne_eq_false_iff_eq.mpr c7; clear c7
         by_cases c8 : t377 ≤ 12
         ·rw [if_pos c8] at H
          have c8b0 := decide_eq_true c8; clear c8
          obtain ⟨y379, hy379⟩ : ∃ y_ : List Int, y_ = (([x5_1, x6_2, t377] : List Int)) := ⟨_, rfl⟩
          replace H : (if x4_2.length < 5864062014805 then (spec_WholeShadows.l1 k2 a0 (x4_2 ++ [y379]) x5_1 (wrap64 (x6_2 + 1))) else (none)) = some (r1, r2) := by first | (rw [hy379]; with_reducible exact H) | (have H2_ := (Option.bind_some _ _).symm.trans H; rw [hy379]; with_reducible exact H2_) | (have H2_ := (Option.bind_some _ _).symm.trans H; with_reducible exact H2_) | with_reducible exact H | (rw [hy379]; exact H) | exact H
          have Ny379 := Aside0.mk hy379; clear hy379
          by_cases c9 : x4_2.length < 5864062014805
          ·rw [if_pos c9] at H
           have LMc9 := Aside0.mk c9; clear c9
           obtain ⟨y382, hy382⟩ : ∃ y_ : List (List Int), y_ = (x4_2 ++ [y379]) := ⟨_, rfl⟩
           replace H : (spec_WholeShadows.l1 k2 a0 y382 x5_1 (wrap64 (x6_2 + 1))) = some (r1, r2) := by first | (rw [hy382]; with_reducible exact H) | (have H2_ := (Option.bind_some _ _).symm.trans H; rw [hy382]; with_reducible exact H2_) | (have H2_ := (Option.bind_some _ _).symm.trans H; with_reducible exact H2_) | with_reducible exact H | (rw [hy382]; exact H) | exact H
           have Ny382 := Aside0.mk hy382; clear hy382; have H' := Aside0.mk H; clear H
           go_wp2_with (first | ((with_reducible refine gate_callee (f := 48) rfl ?_); refine zG (some 28) Tryz.func48 #[.int .i64 (wrap64 (x5_1 * x6_2)), .int .i64 (wrap64 (a0 - x6_2))] ?_; (with_reducible refine (spec_clLow.calls k2 (wrap64 (x5_1 * x6_2)) (wrap64 (a0 - x6_2)) t377 t378 _ A6.out).mono ?_); rintro e w' ⟨rfl, ⟨nd, rfl⟩⟩; refine ⟨_, rfl, ?_⟩) | ((with_reducible refine gate_dst (N := 41) rfl ?_); refine Kd.R_lit (Kd.int .i64) _ 3 ?hg (N := 41) ?hd (xs := ([x5_1, x6_2, t377] : List Int)) (inner := [.int .i64 x5_1, .int .i64 x6_2, .int .i64 t377]) (ok := fun _ => True) (okp := fun _ => True) ?hr ?hp (fun _ hk => hk) trivial (Below.refl _ _) (Nat.le_refl _) zU1_9 ?_; (case hd => rfl); (case hg => rfl); (case hr => first | (go_simp; done) | (go_simp; rfl)); (case hp => exact (Reps.one (show Kd.M (Kd.int .i64) _ _ _ x5_1 [.int .i64 x5_1] from rfl) (Reps.one (show Kd.M (Kd.int .i64) _ _ _ x6_2 [.int .i64 x6_2] from rfl) (Reps.one (show Kd.M (Kd.int .i64) _ _ _ t377 [.int .i64 t377] from rfl) (Reps.none _ _))))); intro v380 w10 ho11 hb hg_ hnew_; clear hg_ hnew_; (first | rw [← Ny379.out] at ho11 | (simp only [Int.reduceToNat] at ho11; rw [← Ny379.out] at ho11)); have n0_ := Aside0.mk (Kd.S_elder' zU1_7 (Kd.R_base ho11) hb); have HO381 := Aside0.mk (Kd.R_lower ho11 (below_size (zy HB))); replace HB := zh HB hb; clear HO_4; have HO_4 := n0_; clear n0_; clear hb ho11; obtain ⟨Ao13, co13, eo13⟩ := Kd.R_slice HO381.out; subst eo13) | ((with_reducible refine gate_builtin (b := .append) (xs := #[.tmp 37, .tmp 42]) rfl ?_); at_builtin; refine Kd.S_append (Kd.slice 3 (Kd.int .i64)) (w0 := w) w.heap.size rfl (.tmp 37) (.tmp 42) 47 27 (.slice none 0 0) 24 rfl Tryz.underlying47 info27 rfl (by decide) (by omega) u4 x4_2 y379 [.slice Ao13 y379.length co13] (fun _ => True) (fun k_ => some k_ = (.slice Ao13 y379.length co13 : Value).ownBlock) rfl rfl ?aP (fun k_ hk_ => ((Kd.R_mono (ok' := fun k_ => ((fun _ => True)) k_ ∧ some k_ ≠ (u4 : Value).ownBlock) (Kd.R_apart' (HO381.out) (Kd.S_typed HO_4.out) (by decide)) (fun k_ hk => ⟨trivial, hk.2⟩))).1 k_ hk_.symm) ?aF ?aO ?aB ?aS ?aL ?_; (case aP => exact Kd.M_row (Kd.R_mono (Kd.R_tight rfl (Kd.R_mono (ok' := fun k_ => ((fun _ => True)) k_ ∧ some k_ ≠ (u4 : Value).ownBlock) (Kd.R_apart' (HO381.out) (Kd.S_typed HO_4.out) (by decide)) (fun k_ hk => ⟨trivial, hk.2⟩))) (fun _ h_ => h_))); (case aB => exact (zy HB)); (case aF => exact (fun _ _ => trivial)); (case aO => exact zU1_0); (case aS => exact (below_size (zy HB))); (case aL => have := LMc9.out; omega); intro v383 w12 ho hb hg hat; rw [← Ny382.out] at ho; have HO384 := Aside0.mk (ho); replace HB := Aside0.mk hb; clear HO_4 HO381; clear ho hb hg hat))
           go_roundg k2
           case measure => have := HK1.out; have := HK2.out; omega
           case rel => exact ⟨(y382), (wrap64 (x6_2 + 1)), zu, H', ⟨by have := HK1.out; have := HK2.out; omega⟩, ⟨by (with_reducible repeat (first | apply Kd.S_alloc | apply Kd.S_drewN | apply Kd.S_drew)); exact HO384.out⟩, ⟨zy HB⟩⟩
          ·rw [if_neg c9] at H
           exact absurd H zU1_9
         ·rw [if_neg c8] at H
          have c8b0 := decide_eq_false c8; clear c8; have H' := Aside0.mk H; clear H
          go_wp2_with (first | ((with_reducible refine gate_callee (f := 48) rfl ?_); refine zG (some 28) Tryz.func48 #[.int .i64 (wrap64 (x5_1 * x6_2)), .int .i64 (wrap64 (a0 - x6_2))] ?_; (with_reducible refine (spec_clLow.calls k2 (wrap64 (x5_1 * x6_2)) (wrap64 (a0 - x6_2)) t377 t378 _ A6.out).mono ?_); rintro e w' ⟨rfl, ⟨nd, rfl⟩⟩; refine ⟨_, rfl, ?_⟩))
          go_roundg k2
          case measure => have := HK1.out; have := HK2.out; omega
          case rel => exact ⟨(x4_2), (wrap64 (x6_2 + 1)), zu, H', ⟨by have := HK1.out; have := HK2.out; omega⟩, ⟨by (with_reducible repeat (first | apply Kd.S_alloc | apply Kd.S_drewN | apply Kd.S_drew)); exact HO_4.out⟩, ⟨zy HB⟩⟩
        ·rw [if_neg c7] at H
         have c7b0 := beq_eq_false_iff_ne.mpr c7; have c7b1 := bne_iff_ne.mpr c7; have H' := Aside0.mk H; clear H
         go_wp2_with (first | ((with_reducible refine gate_callee (f := 48) rfl ?_); refine zG (some 28) Tryz.func48 #[.int .i64 (wrap64 (x5_1 * x6_2)), .int .i64 (wrap64 (a0 - x6_2))] ?_; (with_reducible refine (spec_clLow.calls k2 (wrap64 (x5_1 * x6_2)) (wrap64 (a0 - x6_2)) t377 t378 _ A6.out).mono ?_); rintro e w' ⟨rfl, ⟨nd, rfl⟩⟩; refine ⟨_, rfl, ?_⟩))
         go_roundg k2
         case measure => have := HK1.out; have := HK2.out; omega
         case rel => exact ⟨(x4_2), (wrap64 (x6_2 + 1)), zu, H', ⟨by have := HK1.out; have := HK2.out; omega⟩, ⟨by (with_reducible repeat (first | apply Kd.S_alloc | apply Kd.S_drewN | apply Kd.S_drew)); exact HO_4.out⟩, ⟨zy HB⟩⟩
       ·rw [if_neg c5] at H
        have c5b0 := decide_eq_false c5; clear c5; have H' := Aside0.mk H; clear H
        go_wp2
        go_roundg k2
        case measure => have := HK1.out; have := HK2.out; omega
        case rel => exact ⟨(x4_2), (wrap64 (x5_1 + 1)), zu, H', ⟨by have := HK1.out; have := HK2.out; omega⟩, ⟨by (with_reducible repeat (first | apply Kd.S_alloc | apply Kd.S_drewN | apply Kd.S_drew)); exact HO_4.out⟩, ⟨zy HB⟩⟩
    ·rw [if_neg c4] at H
     have c4b0 := decide_eq_false c4; clear c4; simp only [Option.some.injEq, Prod.mk.injEq] at H; obtain ⟨rfl, rfl⟩ := H
     go_wp2
     go_ret2
     exact ⟨_, zt, by (with_reducible repeat (first | apply Kd.S_alloc | apply Kd.S_drewN | apply Kd.S_drew)); exact HO_4.out, zy HB⟩
 ·replace c3 := Bool.eq_false_iff.mpr c3
  subst c3; rw [if_neg (show ¬ (false = true) by decide)] at H; simp only [Option.some.injEq, Prod.mk.injEq] at H; obtain ⟨rfl, rfl⟩ := H
  go_enter Tryz.func26, Tryz.ntmps26
  go_wp2_with (first | ((with_reducible refine gate_callee (f := 40) rfl ?_); refine zG (some 10) Tryz.func40 #[.int .i64 a0, .int .i64 2, .int .i64 40] ?_; (with_reducible refine (spec_l1In.calls a0 2 40 false _ A2.out).mono ?_); rintro e w' ⟨rfl, ⟨nd, rfl⟩⟩; refine ⟨_, rfl, ?_⟩))
  go_ret2
  exact ⟨_, zt, by first | exact Kd.S_nil _ _ _ _ _ | exact Kd.N_nil _ _ _ _ _ | exact Kd.V_nil _ _ _ _ _ | exact Kd.Q_nil _ _ _ _ _ | exact Kd.R_nil _ _ _ _ _, zy HB⟩


/-! ### spec_DrawPolesText: function 27 -/
def spec_DrawPolesText.f (k : Nat) (l0 : List Int) : Option ((List (S39))) := (spec_l1Cur_poles.f k l0 0 0).bind fun bt386 => (some bt386.1)
theorem spec_DrawPolesText.calls (k : Nat) (A0 : Option Addr) (c0 : Nat) (l0 : List Int) (r : List (S39)) (w : World) (hr0 : Kd.C (Kd.int .u8) w A0 l0.length l0) (hc0 : l0.length ≤ c0) (h : spec_DrawPolesText.f k l0 = some r) :
 Calls Tryz.prog 27 #[.slice A0 l0.length c0] w fun e w' => ∃ v0_ : Value, e = .returned (v0_) ∧ Kd.R k39 39 w' w.heap.size (fun _ => True) v0_ r ∧ Below w.heap.size w w' := by
 have hu61 := Tryz.underlying61; have HR0 := Aside0.mk hr0; have HC0 := Aside0.mk hc0; clear hr0 hc0
 have HB := Aside0.mk (Below.refl w.heap.size w)
 have H := h; rw [spec_DrawPolesText.f] at H; clear h; obtain ⟨⟨t386, t389, t390⟩, A2, H⟩ := zB H; (try dsimp only at H)
 obtain rfl := Option.some.inj H
 go_enter Tryz.func27, Tryz.ntmps27
 go_wp2_with (first | ((with_reducible refine gate_dst (N := 6) rfl ?_); refine zE 6 #[.slice A0 l0.length c0, .int .i64 0, .int .u64 0] 61 ?_; intro gb385 hg w3 hbox hb; have HI385 := Aside0.mk ((show IsS61 w _ gb385 l0 0 0 from ⟨_, _, hbox, (by rw [hg]; exact (below_size (zy HB)) : w.heap.size ≤ gb385), HR0.out⟩)); have GW385 := zg HB hg; replace HB := zh HB hb; clear hb hbox hg) | ((with_reducible refine gate_callee (f := 36) rfl ?_); refine zG (some 8) Tryz.func36 #[.pointer (some ⟨gb385, 0, none⟩)] ?_; (with_reducible refine (spec_l1Cur_poles.calls k gb385 l0 0 0 t386 t389 t390 w _ ?side1 ?side2 A2.out).mono ?_); (case side1 => exact zI61 HI385); (case side2 => exact zY61 HB); rintro e w4 ⟨v387, rfl, ho0, hi, hb, hk⟩; refine ⟨_, rfl, ?_⟩; have HO388 := Aside0.mk (Kd.R_lower ho0 (below_size (zY61 HB))); replace HB := Aside0.mk hb; replace HI385 := Aside0.mk hi; clear hb hk hi ho0))
 go_ret
 exact ⟨_, zt, by (with_reducible repeat (first | apply Kd.R_alloc | apply Kd.R_drewN | apply Kd.R_drew)); exact HO388.out, zY61 HB⟩


/-! ### strconv_Itoa_69: function 69 -/
/-- What these walks ask of the start-up code: the table of the powers of ten. -/
def LaidP (w : World) : Prop := Lib.TabIs Tryz.prog w "internal/strconv.uint64pow10" .u64 Lib.pow10Tab
theorem LaidP.below {w w' : World} (h : LaidP w) (hb : Below w.heap.size w w') : LaidP w' := by
 unfold LaidP Lib.TabIs World.var? at h ⊢
 cases hg : Tryz.prog.globalNamed "internal/strconv.uint64pow10" with
 | none => rw [hg] at h; simp at h
 | some g =>
  rw [hg] at h
  simp only [Option.bind_some] at h ⊢
  have hlt : g < w.heap.size := by
   rcases Nat.lt_or_ge g w.heap.size with h' | h'
   ·exact h'
   ·rw [Array.getElem?_eq_none h'] at h; cases h
  rw [hb.block g hlt]
  exact h
def strconv_Itoa_69.f (a0 : Int) : Option ByteArray := if -9223372036854775808 ≤ a0 ∧ a0 ≤ 9223372036854775807 then some ⟨(Lib.itoa a0).toArray⟩ else none
theorem strconv_Itoa_69.calls (a0 : Int) (r : ByteArray) (w : World) (hL_ : LaidP w) (h : strconv_Itoa_69.f a0 = some r) :
 Calls Tryz.prog 69 #[.int .i64 a0] w fun e w' => e = .returned (.string r) ∧ Below w.heap.size w w' := by
 unfold strconv_Itoa_69.f at h
 by_cases hb : -9223372036854775808 ≤ a0 ∧ a0 ≤ 9223372036854775807
 ·rw [if_pos hb] at h
  obtain rfl := Option.some.inj h
  refine (Tryz.strconv_Itoa a0 hb.1 hb.2 w hL_).mono fun e w' hh => ?_
  obtain ⟨rfl, k, os, rfl⟩ := hh
  refine ⟨rfl, ⟨rfl, rfl, rfl, ?_, fun i hi => ?_⟩⟩
  ·simp [Sort.grow, World.drewN]
  ·show (w.heap ++ os)[i]? = w.heap[i]?
   rw [Array.getElem?_append_left hi]
 ·rw [if_neg hb] at h
  cases h


end Go.Proofs.YtknjpbkkbnmfaaaGreatDoor.P
