/- The law FnExactHarderPuzzle is proved: a call of it returns true and leaves its arguments as they were; and what this needs. Every input that the given rows speak of; nothing else is asked. -/
import Derived.Test.YthioojdannlhiaaNFnExactHarderPuzzle0
import Derived.Test.YthioojdannlhiaaNFnExactHarderPuzzle1
import Derived.Test.YthioojdannlhiaaNFnExactHarderPuzzle2
import Derived.Test.YthioojdannlhiaaNFnExactHarderPuzzle3
import Derived.Test.YthioojdannlhiaaRows
import Derived.WalkKit
import Derived.ProofKit
import Derived.OpenShut
import Derived.ShutString
import Derived.ChangeOld
import Derived.Below
import Derived.SizedLaws
import Derived.Deep.Slices
import Derived.Deep.Fields
import Derived.ChangeSame
import Derived.Lib.SmallJoins
import Derived.Test.YthioojdannlhiaaWSized
namespace Go.Proofs.Ythioojdannlhiaa.P
open Go.RowKit Go.Proofs.YthioojdannlhiaaW.PrintWords Go.Proofs.YthioojdannlhiaaW.PrintLast Go.Proofs.YthioojdannlhiaaW.PrintMore
attribute [local go_sem] max2_int min2_int max_two min_two max_three min_three max_four min_four   -- for this text's walks alone
set_option linter.unusedVariables false
set_option linter.unusedSimpArgs false

/-! ### impl_IsSolved: function 27 -/
def impl_IsSolved.f (k : Nat) (a0_0 : Int) (l0_1 : List (S43)) : Option (Bool × Bool) := (impl_IsPuzzle.f k a0_0 l0_1).bind fun t481 => (if t481 = true then ((impl_isSolved.f k a0_0 l0_1).bind fun t482 => (some (t482, true))) else (some (false, false)))
set_option maxHeartbeats 8000000 in
set_option maxRecDepth 100000 in
theorem impl_IsSolved.calls (k : Nat) (a0_0 : Int) (A0_1 : Option Addr) (c0_1 : Nat) (l0_1 : List (S43)) (r1 : Bool) (r2 : Bool) (w : World) (hr0_1 : Kd.C k43 w A0_1 l0_1.length l0_1) (hc0_1 : l0_1.length ≤ c0_1) (h : impl_IsSolved.f k a0_0 l0_1 = some (r1, r2)) :
  Calls Try.prog 27 #[.agg #[.int .i64 a0_0, .slice A0_1 l0_1.length c0_1]] w fun e w' => e = .returned (.tuple #[.bool r1, .bool r2]) ∧ Below w.heap.size w w' := by
 have hu28 := Try.underlying28
 have HR0_1 := Aside0.mk hr0_1
 have HC0_1 := Aside0.mk hc0_1
 clear hr0_1 hc0_1
 have HB := Aside0.mk (Below.refl w.heap.size w)
 have H : ((impl_IsPuzzle.f k a0_0 l0_1).bind fun t481 => (if t481 = true then ((impl_isSolved.f k a0_0 l0_1).bind fun t482 => (some (t482, true))) else (some (false, false)))) = some (r1, r2) := h
 clear h; replace H := Option.bind_eq_some_iff.mp H
 obtain ⟨t481, A20, H⟩ := H
 replace H : (if t481 = true then ((impl_isSolved.f k a0_0 l0_1).bind fun t482 => (some (t482, true))) else (some (false, false))) = some (r1, r2) := H
 have A2 := Aside0.mk A20
 clear A20
 by_cases c3 : t481 = true
 ·subst c3
  have H1 : ((impl_isSolved.f k a0_0 l0_1).bind fun t482 => (some (t482, true))) = some (r1, r2) := by rw [if_pos rfl] at H; exact H
  clear H; have H := H1; clear H1; replace H := Option.bind_eq_some_iff.mp H
  obtain ⟨t482, A40, H⟩ := H
  replace H : (some (t482, true)) = some (r1, r2) := H
  have A4 := Aside0.mk A40
  clear A40
  simp only [Option.some.injEq, Prod.mk.injEq] at H
  obtain ⟨rfl, rfl⟩ := H
  go_enter Try.func27, Try.ntmps27
  go_wp2_with (first | ((with_reducible refine gate_dst (N := 1) rfl ?_); refine box_event ?hg (N := 1) ?hd (cs := #[.int .i64 a0_0, .slice A0_1 l0_1.length c0_1]) (t := 28) ?hr ?_; (case hd => rfl); (case hg => rfl); (case hr => first | (go_simp; done) | (go_simp; rfl)); intro gb480 hg w5 hbox hb; have n0_ := Aside0.mk (below_step (by repeat (first | (with_reducible first | exact HB.out | apply below_alloc | apply pw_below_drewN | apply below_drew1) | exact HB.out)) hb); have n1_ := Aside0.mk (hbox); have n2_ := Aside0.mk ((by rw [hg]; exact (below_size (by repeat (first | (with_reducible first | exact HB.out | apply below_alloc | apply pw_below_drewN | apply below_drew1) | exact HB.out))) : w.heap.size ≤ gb480)); have n3_ := Aside0.mk ((by rw [hg]; exact (below_size (by repeat (first | (with_reducible first | exact HB.out | apply below_alloc | apply pw_below_drewN | apply below_drew1) | exact HB.out))) : w.heap.size ≤ gb480)); clear HB; have HB := n0_; have BK480 := n1_; have GW480 := n2_; have GE480 := n3_; clear n0_ n1_ n2_ n3_; clear hb hbox hg; have hcz6_0 : w5.cell? ⟨gb480, 0, none⟩ = some (.int .i64 a0_0) := (blk_cell BK480.out 0).trans rfl; have hcz6_1 : w5.cell? ⟨gb480, 1, none⟩ = some (.slice A0_1 l0_1.length c0_1) := (blk_cell BK480.out 1).trans rfl; have hfz6_0 := blk_frozen BK480.out 0; have hfz6_1 := blk_frozen BK480.out 1) | ((with_reducible refine gate_callee (f := 26) rfl ?_); refine goesL_ (some 5) rfl rfl Try.func26 (by kernel_rfl) rfl #[.agg #[.int .i64 a0_0, .slice A0_1 l0_1.length c0_1]] rfl (by (try simp only [List.map_toArray, List.map_cons, List.map_nil]); first | done | rfl | (simp only [List.length_drop, List.length_take]; rfl)) ?_; (with_reducible refine (impl_IsPuzzle.calls k a0_0 _ _ l0_1 true _ ?side1 ?side2 A2.out).mono ?_); (case side1 => repeat (first | exact (Kd.C_below HR0_1.out HB.out) | (with_reducible refine Kd.C_alloc ?_ _) | (with_reducible refine Kd.C_drewN ?_ _) | (with_reducible refine Kd.C_drew ?_))); (case side2 => exact HC0_1.out); rintro e w7 ⟨rfl, hb⟩; refine ⟨_, rfl, ?_⟩; have n0_ := Aside0.mk (blk_below (g := gb480) (o := .cells #[.int .i64 a0_0, .slice A0_1 l0_1.length c0_1] 28 (0, 0)) (by (with_reducible repeat (first | refine blk_drewN ?_ _ | refine blk_drew ?_ | refine blk_alloc ?_ _)); exact BK480.out) hb); have n1_ := Aside0.mk (below_step (by repeat (first | (with_reducible first | exact HB.out | apply below_alloc | apply pw_below_drewN | apply below_drew1 | refine below_set ?_ GE480.out) | exact HB.out)) hb); clear BK480; clear HB; have BK480 := n0_; have HB := n1_; clear n0_ n1_; (try clear hb); (try clear hb2); (try clear hk); (try clear hi); have hcz8_0 : w7.cell? ⟨gb480, 0, none⟩ = some (.int .i64 a0_0) := (blk_cell BK480.out 0).trans rfl; have hcz8_1 : w7.cell? ⟨gb480, 1, none⟩ = some (.slice A0_1 l0_1.length c0_1) := (blk_cell BK480.out 1).trans rfl; have hfz8_0 := blk_frozen BK480.out 0; have hfz8_1 := blk_frozen BK480.out 1) | ((with_reducible refine gate_callee (f := 49) rfl ?_); refine goesL_ (some 11) rfl rfl Try.func49 (by kernel_rfl) rfl #[.int .i64 a0_0, .slice A0_1 l0_1.length c0_1] rfl (by (try simp only [List.map_toArray, List.map_cons, List.map_nil]); first | done | rfl | (simp only [List.length_drop, List.length_take]; rfl)) ?_; (with_reducible refine (impl_isSolved.calls k a0_0 _ _ l0_1 t482 _ ?side1 ?side2 A4.out).mono ?_); (case side1 => repeat (first | exact (Kd.C_below HR0_1.out HB.out) | (with_reducible refine Kd.C_alloc ?_ _) | (with_reducible refine Kd.C_drewN ?_ _) | (with_reducible refine Kd.C_drew ?_))); (case side2 => exact HC0_1.out); rintro e w9 ⟨rfl, hb⟩; refine ⟨_, rfl, ?_⟩; have n0_ := Aside0.mk (blk_below (g := gb480) (o := .cells #[.int .i64 a0_0, .slice A0_1 l0_1.length c0_1] 28 (0, 0)) (by (with_reducible repeat (first | refine blk_drewN ?_ _ | refine blk_drew ?_ | refine blk_alloc ?_ _)); exact BK480.out) hb); have n1_ := Aside0.mk (below_step (by repeat (first | (with_reducible first | exact HB.out | apply below_alloc | apply pw_below_drewN | apply below_drew1 | refine below_set ?_ GE480.out) | exact HB.out)) hb); clear BK480; clear HB; have BK480 := n0_; have HB := n1_; clear n0_ n1_; (try clear hb); (try clear hb2); (try clear hk); (try clear hi)))
  go_ret2
  exact ⟨by first | rfl | (simp [errW_none, errW_some] <;> rfl) | (simp [*, errW_none, errW_some] <;> rfl), by repeat (first | (with_reducible first | exact HB.out | apply below_alloc | apply pw_below_drewN | apply below_drew1 | refine below_set ?_ GE480.out) | exact HB.out)⟩
 ·replace c3 := Bool.eq_false_iff.mpr c3
  subst c3
  have H1 : (some (false, false)) = some (r1, r2) := by rw [if_neg (show ¬ (false = true) by decide)] at H; exact H
  clear H; have H := H1; clear H1
  simp only [Option.some.injEq, Prod.mk.injEq] at H
  obtain ⟨rfl, rfl⟩ := H
  go_enter Try.func27, Try.ntmps27
  go_wp2_with (first | ((with_reducible refine gate_dst (N := 1) rfl ?_); refine box_event ?hg (N := 1) ?hd (cs := #[.int .i64 a0_0, .slice A0_1 l0_1.length c0_1]) (t := 28) ?hr ?_; (case hd => rfl); (case hg => rfl); (case hr => first | (go_simp; done) | (go_simp; rfl)); intro gb480 hg w10 hbox hb; have n0_ := Aside0.mk (below_step (by repeat (first | (with_reducible first | exact HB.out | apply below_alloc | apply pw_below_drewN | apply below_drew1) | exact HB.out)) hb); have n1_ := Aside0.mk (hbox); have n2_ := Aside0.mk ((by rw [hg]; exact (below_size (by repeat (first | (with_reducible first | exact HB.out | apply below_alloc | apply pw_below_drewN | apply below_drew1) | exact HB.out))) : w.heap.size ≤ gb480)); have n3_ := Aside0.mk ((by rw [hg]; exact (below_size (by repeat (first | (with_reducible first | exact HB.out | apply below_alloc | apply pw_below_drewN | apply below_drew1) | exact HB.out))) : w.heap.size ≤ gb480)); clear HB; have HB := n0_; have BK480 := n1_; have GW480 := n2_; have GE480 := n3_; clear n0_ n1_ n2_ n3_; clear hb hbox hg; have hcz11_0 : w10.cell? ⟨gb480, 0, none⟩ = some (.int .i64 a0_0) := (blk_cell BK480.out 0).trans rfl; have hcz11_1 : w10.cell? ⟨gb480, 1, none⟩ = some (.slice A0_1 l0_1.length c0_1) := (blk_cell BK480.out 1).trans rfl; have hfz11_0 := blk_frozen BK480.out 0; have hfz11_1 := blk_frozen BK480.out 1) | ((with_reducible refine gate_callee (f := 26) rfl ?_); refine goesL_ (some 5) rfl rfl Try.func26 (by kernel_rfl) rfl #[.agg #[.int .i64 a0_0, .slice A0_1 l0_1.length c0_1]] rfl (by (try simp only [List.map_toArray, List.map_cons, List.map_nil]); first | done | rfl | (simp only [List.length_drop, List.length_take]; rfl)) ?_; (with_reducible refine (impl_IsPuzzle.calls k a0_0 _ _ l0_1 false _ ?side1 ?side2 A2.out).mono ?_); (case side1 => repeat (first | exact (Kd.C_below HR0_1.out HB.out) | (with_reducible refine Kd.C_alloc ?_ _) | (with_reducible refine Kd.C_drewN ?_ _) | (with_reducible refine Kd.C_drew ?_))); (case side2 => exact HC0_1.out); rintro e w12 ⟨rfl, hb⟩; refine ⟨_, rfl, ?_⟩; have n0_ := Aside0.mk (blk_below (g := gb480) (o := .cells #[.int .i64 a0_0, .slice A0_1 l0_1.length c0_1] 28 (0, 0)) (by (with_reducible repeat (first | refine blk_drewN ?_ _ | refine blk_drew ?_ | refine blk_alloc ?_ _)); exact BK480.out) hb); have n1_ := Aside0.mk (below_step (by repeat (first | (with_reducible first | exact HB.out | apply below_alloc | apply pw_below_drewN | apply below_drew1 | refine below_set ?_ GE480.out) | exact HB.out)) hb); clear BK480; clear HB; have BK480 := n0_; have HB := n1_; clear n0_ n1_; (try clear hb); (try clear hb2); (try clear hk); (try clear hi)))
  go_ret2
  exact ⟨by first | rfl | (simp [errW_none, errW_some] <;> rfl) | (simp [*, errW_none, errW_some] <;> rfl), by repeat (first | (with_reducible first | exact HB.out | apply below_alloc | apply pw_below_drewN | apply below_drew1 | refine below_set ?_ GE480.out) | exact HB.out)⟩

end Go.Proofs.Ythioojdannlhiaa.P

namespace Go.Proofs.Ythioojdannlhiaa.P
open Go.RowKit Go.Proofs.YthioojdannlhiaaW.PrintWords Go.Proofs.YthioojdannlhiaaW.PrintLast Go.Proofs.YthioojdannlhiaaW.PrintMore
set_option linter.unusedVariables false
set_option linter.unusedSimpArgs false
theorem impl_isSolved.ev {w : Int} {l : List S43} (h1 : inr 1 12 w = true) (h3 : l.all mClueS = true) : Ev (fun k => impl_isSolved.f k w l) (((mSols w l).length : Int) == 1) := by
 unfold impl_isSolved.f
 exact Ev.bind (impl_solutions.ev h1 h3) (Ev.now _)
theorem spec_pzSolved.ev {w : Int} {l : List S43} (h1 : inr 1 12 w = true) (hl : l.length ≤ 4611686018427387904) : Ev (fun k => spec_pzSolved.f k w l) (((mSols w l).length : Int) == 1) := by
 unfold spec_pzSolved.f
 exact Ev.bind (spec_pzAll.ev hl h1) (Ev.now _)
def mIsSolved (w : Int) (l : List S43) : Bool × Bool := if mPuzzle w l = true then (((mSols w l).length : Int) == 1, true) else (false, false)
theorem impl_IsSolved.ev (w : Int) (l : List S43) : Ev (fun k => impl_IsSolved.f k w l) (mIsSolved w l) := by
 unfold impl_IsSolved.f mIsSolved
 refine Ev.bind (impl_IsPuzzle.ev w l) ?_
 refine Ev.ite (fun h => ?_) (fun _ => Ev.now _)
 obtain ⟨h1, h2, h3⟩ := mPuzzle_parts h
 exact Ev.bind (impl_isSolved.ev h1 h3) (Ev.now _)
end Go.Proofs.Ythioojdannlhiaa.P

namespace Go.Proofs.Ythioojdannlhiaa.P
open Go.RowKit Go.Proofs.YthioojdannlhiaaW.PrintWords Go.Proofs.YthioojdannlhiaaW.PrintLast Go.Proofs.YthioojdannlhiaaW.PrintMore
set_option linter.unusedVariables false
set_option linter.unusedSimpArgs false
theorem concat2.ev (x y : List S43) (h : x.length + y.length < 1000) : Ev (fun k => impl_Clue_86.f k [x, y]) (x ++ y) := by
 unfold impl_Clue_86.f
 refine Ev.succ ?_
 rw [show (fun k => impl_Clue_86.l0 (k + 1) [x, y] 0 [x, y] (([x, y].length : Nat) : Int) 0) = (fun k => if wrap64 (0 + (x.length : Int)) < 0 then none else impl_Clue_86.l0 k [x, y] (wrap64 (0 + (x.length : Int))) [x, y] 2 1) from funext fun k => by rw [impl_Clue_86.l0, if_pos (by simp), if_pos (by simp), if_pos (by simp), wid (x := 0 + 1) (by omega) (by omega)]; rfl]
 rw [wid (show -9223372036854775808 ≤ 0 + (x.length : Int) by omega) (by omega)]
 simp only [show ¬ (0 + (x.length : Int) < 0) by omega, if_false]
 refine Ev.succ ?_
 rw [show (fun k => impl_Clue_86.l0 (k + 1) [x, y] (0 + (x.length : Int)) [x, y] 2 1) = (fun k => if wrap64 (0 + (x.length : Int) + (y.length : Int)) < 0 then none else impl_Clue_86.l0 k [x, y] (wrap64 (0 + (x.length : Int) + (y.length : Int))) [x, y] 2 2) from funext fun k => by rw [impl_Clue_86.l0, if_pos (by simp), if_pos (by simp), if_pos (by simp), wid (x := 1 + 1) (by omega) (by omega)]; rfl]
 rw [wid (show -9223372036854775808 ≤ 0 + (x.length : Int) + (y.length : Int) by omega) (by omega)]
 simp only [show ¬ (0 + (x.length : Int) + (y.length : Int) < 0) by omega, if_false]
 refine Ev.succ ?_
 rw [show (fun k => impl_Clue_86.l0 (k + 1) [x, y] (0 + (x.length : Int) + (y.length : Int)) [x, y] 2 2) = (fun k => (growNil.f (0 + (x.length : Int) + (y.length : Int))).bind fun t => impl_Clue_86.l1 k t [x, y] 2 0) from funext fun k => by rw [impl_Clue_86.l0, if_neg (by simp)]; rfl]
 refine Ev.bindc (show growNil.f (0 + (x.length : Int) + (y.length : Int)) = some [] from if_pos ⟨by omega, by omega⟩) ?_
 refine Ev.succ ?_
 rw [show (fun k => impl_Clue_86.l1 (k + 1) [] [x, y] 2 0) = (fun k => if ([] : List S43).length + x.length < 5864062014805 then impl_Clue_86.l1 k ([] ++ x) [x, y] 2 1 else none) from funext fun k => by rw [impl_Clue_86.l1, if_pos (by simp), if_pos (by simp), if_pos (by simp), wid (x := 0 + 1) (by omega) (by omega)]; rfl]
 simp only [show ([] : List S43).length + x.length < 5864062014805 by simp only [List.length_nil]; omega, if_true, List.nil_append]
 refine Ev.succ ?_
 rw [show (fun k => impl_Clue_86.l1 (k + 1) x [x, y] 2 1) = (fun k => if x.length + y.length < 5864062014805 then impl_Clue_86.l1 k (x ++ y) [x, y] 2 2 else none) from funext fun k => by rw [impl_Clue_86.l1, if_pos (by simp), if_pos (by simp), if_pos (by simp), wid (x := 1 + 1) (by omega) (by omega)]; rfl]
 simp only [show x.length + y.length < 5864062014805 by omega, if_true]
 refine Ev.succ ?_
 rw [show (fun k => impl_Clue_86.l1 (k + 1) (x ++ y) [x, y] 2 2) = (fun _ => some (x ++ y)) from funext fun k => by rw [impl_Clue_86.l1, if_neg (by simp)]]
 exact Ev.now _
end Go.Proofs.Ythioojdannlhiaa.P

namespace Go.Proofs.Ythioojdannlhiaa.P
open Go.RowKit Go.Proofs.YthioojdannlhiaaW.PrintWords Go.Proofs.YthioojdannlhiaaW.PrintLast Go.Proofs.YthioojdannlhiaaW.PrintMore
set_option linter.unusedVariables false
set_option linter.unusedSimpArgs false
def mWo (l : List S43) (i : Nat) : List S43 := l.take i ++ l.drop (i + 1)
theorem mWo_len {l : List S43} {i : Nat} (h : i < l.length) : (mWo l i).length + 1 = l.length := by
 unfold mWo; rw [List.length_append, List.length_take, List.length_drop]; omega
theorem mWo_all {p : S43 → Bool} {l : List S43} (h : l.all p = true) (i : Nat) : (mWo l i).all p = true := by
 unfold mWo
 refine List.all_eq_true.2 fun x hx => List.all_eq_true.1 h x ?_
 rcases List.mem_append.1 hx with hx | hx
 ·exact List.mem_of_mem_take hx
 ·exact List.mem_of_mem_drop hx
theorem impl_without.ev {l : List S43} {i : Nat} (hi : i < l.length) (hl : l.length ≤ 100) : Ev (fun k => impl_without.f k l (i : Int)) (mWo l i) := by
 unfold impl_without.f
 rw [wid (show -9223372036854775808 ≤ (i : Int) + 1 by omega) (by omega)]
 simp only [show (0 : Int) ≤ (i : Int) by omega, show (i : Int) ≤ (l.length : Int) by omega, show (0 : Int) ≤ (i : Int) + 1 by omega, show (i : Int) + 1 ≤ (l.length : Int) by omega, if_true, Int.toNat_natCast, show ((i : Int) + 1).toNat = i + 1 by omega]
 refine Ev.bind (concat2.ev _ _ (by rw [List.length_take, List.length_drop]; omega)) ?_
 exact Ev.now _
theorem spec_pzWithout.eq {l : List S43} {i : Nat} (hi : i < l.length) (hl : l.length ≤ 100) : spec_pzWithout.f l (i : Int) = some (mWo l i) := by
 unfold spec_pzWithout.f mWo
 rw [wid (show -9223372036854775808 ≤ (i : Int) + 1 by omega) (by omega)]
 simp only [Option.bind_some, List.nil_append, List.length_nil, List.length_take, List.length_drop, show (0 : Int) ≤ (i : Int) by omega, show (i : Int) ≤ (l.length : Int) by omega, show (0 : Int) ≤ (i : Int) + 1 by omega, show (i : Int) + 1 ≤ (l.length : Int) by omega, if_true, Int.toNat_natCast, show ((i : Int) + 1).toNat = i + 1 by omega, show 0 + min i l.length < 5864062014805 by omega, show min i l.length + (l.length - (i + 1)) < 5864062014805 by omega]
end Go.Proofs.Ythioojdannlhiaa.P

namespace Go.Proofs.Ythioojdannlhiaa.P
open Go.RowKit Go.Proofs.YthioojdannlhiaaW.PrintWords Go.Proofs.YthioojdannlhiaaW.PrintLast Go.Proofs.YthioojdannlhiaaW.PrintMore
set_option linter.unusedVariables false
set_option linter.unusedSimpArgs false
/-- The clues that are left over: those from place i on are tried, one after the other. -/
def hardF (w : Int) : Nat → List S43 → Nat → List S43
 | 0, l, _ => l
 | d + 1, l, i => if (((mSols w (mWo l i)).length : Int) == 1) = true then hardF w d (mWo l i) i else hardF w d l (i + 1)
def mHarder (w : Int) (l : List S43) : Int × List S43 × Bool := if (mPuzzle w l && (((mSols w l).length : Int) == 1)) = true then (w, hardF w l.length l 0, true) else (0, [], false)
theorem hardF_len (w : Int) (d : Nat) : ∀ (l : List S43) (i : Nat), i + d = l.length → (hardF w d l i).length ≤ l.length := by
 induction d with
 | zero => intro l i _; exact Nat.le_refl _
 | succ d ih =>
  intro l i h
  unfold hardF
  have := mWo_len (l := l) (i := i) (by omega)
  split
  ·exact Nat.le_trans (ih _ _ (by omega)) (by omega)
  ·exact ih _ _ (by omega)
theorem mHarder_len (w : Int) (l : List S43) : (mHarder w l).2.1.length ≤ 1099511627776 := by
 unfold mHarder; split
 ·rename_i h; rw [Bool.and_eq_true] at h; have := (mPuzzle_parts h.1).2.1; have := hardF_len w l.length l 0 (by omega); simp only; omega
 ·simp
theorem impl_HarderPuzzle.ev_l (w : Int) (p : List S43) (h1 : inr 1 12 w = true) (d : Nat) : ∀ (l : List S43) (i : Nat), l.all mClueS = true → l.length ≤ 6 → i + d = l.length → Ev (fun k => impl_HarderPuzzle.l0 k l (i : Int) w p) (w, hardF w d l i, true) := by
 induction d with
 | zero =>
  intro l i h3 h2 hi
  refine Ev.succ ?_
  simp only [impl_HarderPuzzle.l0, show ¬ ((i : Int) < (l.length : Int)) by omega, if_false]
  exact Ev.now _
 | succ d ih =>
  intro l i h3 h2 hi
  have hlen := mWo_len (l := l) (i := i) (by omega)
  refine Ev.succ ?_
  simp only [impl_HarderPuzzle.l0, show ((i : Int) < (l.length : Int)) by omega, if_true]
  rw [wid (show -9223372036854775808 ≤ (i : Int) + 1 by omega) (by omega)]
  refine Ev.bind (impl_without.ev (by omega) (by omega)) ?_
  refine Ev.bind (impl_isSolved.ev h1 (mWo_all h3 i)) ?_
  unfold hardF
  by_cases h : (((mSols w (mWo l i)).length : Int) == 1) = true
  ·simp only [h, if_true]
   exact ih (mWo l i) i (mWo_all h3 i) (by omega) (by omega)
  ·simp only [h, if_false, Bool.false_eq_true]
   exact ih l (i + 1) h3 h2 (by omega)
theorem impl_HarderPuzzle.ev (w : Int) (l : List S43) : Ev (fun k => impl_HarderPuzzle.f k w l) (mHarder w l) := by
 unfold impl_HarderPuzzle.f mHarder
 refine Ev.bind (impl_IsPuzzle.ev w l) ?_
 cases h : mPuzzle w l with
 | false =>
  simp only [Bool.false_eq_true, if_false, Bool.false_and]
  refine Ev.succ ?_
  exact Ev.now _
 | true =>
  obtain ⟨h1, h2, h3⟩ := mPuzzle_parts h
  simp only [if_true, Bool.true_and]
  refine Ev.bind (impl_isSolved.ev h1 h3) ?_
  refine Ev.succ ?_
  cases h4 : (((mSols w l).length : Int) == 1) with
  | false => exact Ev.now _
  | true =>
   simp only [impl_HarderPuzzle.j0, Bool.not_true, Bool.false_eq_true, if_false, if_true]
   refine Ev.bindc (show impl_Clue_50.f l = some l from if_pos (by omega)) ?_
   exact impl_HarderPuzzle.ev_l w l h1 l.length l 0 h3 h2 (by omega)
theorem spec_HarderPuzzle.ev_l (w : Int) (p : List S43) (h1 : inr 1 12 w = true) (d : Nat) : ∀ (l : List S43) (i : Nat), l.length ≤ 6 → i + d = l.length → Ev (fun k => spec_HarderPuzzle.l0 k l (i : Int) w p) (w, hardF w d l i, true) := by
 induction d with
 | zero =>
  intro l i h2 hi
  refine Ev.succ ?_
  simp only [spec_HarderPuzzle.l0, show ¬ ((i : Int) < (l.length : Int)) by omega, if_false]
  exact Ev.now _
 | succ d ih =>
  intro l i h2 hi
  have hlen := mWo_len (l := l) (i := i) (by omega)
  refine Ev.succ ?_
  simp only [spec_HarderPuzzle.l0, show ((i : Int) < (l.length : Int)) by omega, if_true]
  rw [wid (show -9223372036854775808 ≤ (i : Int) + 1 by omega) (by omega)]
  refine Ev.bindc (spec_pzWithout.eq (by omega) (by omega)) ?_
  refine Ev.bind (spec_pzSolved.ev h1 (by omega)) ?_
  unfold hardF
  by_cases h : (((mSols w (mWo l i)).length : Int) == 1) = true
  ·simp only [h, if_true]
   exact ih (mWo l i) i (by omega) (by omega)
  ·simp only [h, if_false, Bool.false_eq_true]
   exact ih l (i + 1) h2 (by omega)
theorem spec_HarderPuzzle.ev (w : Int) (l : List S43) : Ev (fun k => spec_HarderPuzzle.f k w l) (mHarder w l) := by
 unfold spec_HarderPuzzle.f mHarder
 refine Ev.bind (spec_pzGood.ev w l) ?_
 cases h : mPuzzle w l with
 | false =>
  simp only [Bool.false_eq_true, if_false, Bool.false_and]
  refine Ev.succ ?_
  exact Ev.now _
 | true =>
  obtain ⟨h1, h2, h3⟩ := mPuzzle_parts h
  simp only [if_true, Bool.true_and]
  refine Ev.bind (spec_pzSolved.ev h1 (by omega)) ?_
  refine Ev.succ ?_
  cases h4 : (((mSols w l).length : Int) == 1) with
  | false => exact Ev.now _
  | true =>
   simp only [spec_HarderPuzzle.j0, Bool.not_true, Bool.false_eq_true, if_false, if_true, Option.bind_some, List.nil_append, List.length_nil, show 0 + l.length < 5864062014805 by omega]
   exact spec_HarderPuzzle.ev_l w l h1 l.length l 0 h2 (by omega)
end Go.Proofs.Ythioojdannlhiaa.P

namespace Go.Proofs.Ythioojdannlhiaa.P
open Go.RowKit Go.Proofs.YthioojdannlhiaaW.PrintWords Go.Proofs.YthioojdannlhiaaW.PrintLast Go.Proofs.YthioojdannlhiaaW.PrintMore
set_option linter.unusedVariables false
set_option linter.unusedSimpArgs false
def mkClueS (c : Int) (i : Nat) : S43 := ⟨c + 3 * (i : Int), c + 3 * (i : Int) + 1, c + 3 * (i : Int) + 2⟩
def MarkedClueS (c : Int) (l : List S43) (i : Nat) : Prop := ∀ j, j < i → rd_T43 l (j : Int) = mkClueS c j
theorem rd_setClueS (l : List S43) (i j : Nat) (x : S43) (h : i < l.length) : rd_T43 (l.set i x) (j : Int) = if j = i then x else rd_T43 l (j : Int) := by
 unfold rd_T43
 rw [Int.toNat_natCast, List.getD_eq_getElem?_getD, List.getD_eq_getElem?_getD]
 by_cases e : j = i
 ·subst e; rw [if_pos rfl, List.getElem?_set_self h]; rfl
 ·rw [if_neg e, List.getElem?_set_ne (by omega)]
theorem laws_markClueS.ev_l (c : Int) (hc : 0 ≤ c ∧ c ≤ 1000000) (n : Nat) (hn : n ≤ 1099511627776) (d : Nat) : ∀ (i : Nat) (l : List S43), l.length = n → i + d = n → MarkedClueS c l i → ∃ r : List S43, r.length = n ∧ MarkedClueS c r n ∧ Ev (fun k => laws_markClueS.l0 k l (c + 3 * (i : Int)) (i : Int)) (c + 3 * (n : Int), r) := by
 induction d with
 | zero =>
  intro i l hl hi hm
  obtain rfl : i = n := by omega
  refine ⟨l, hl, hm, ?_⟩
  refine Ev.succ ?_
  simp only [laws_markClueS.l0, show ¬ ((i : Int) < (l.length : Int)) by omega, if_false]
  exact Ev.now _
 | succ d ih =>
  intro i l hl hi hm
  have hlt : i < l.length := by omega
  obtain ⟨r, hr, hmr, hE⟩ := ih (i + 1) (l.set i (mkClueS c i)) (by simpa using hl) (by omega) (fun j hj => by
   rw [rd_setClueS l i j _ hlt]
   by_cases e : j = i
   ·rw [if_pos e, e]
   ·rw [if_neg e]; exact hm j (by omega))
  refine ⟨r, hr, hmr, ?_⟩
  refine Ev.succ ?_
  simp only [laws_markClueS.l0, show ((i : Int) < (l.length : Int)) by omega, show (0 : Int) ≤ (i : Int) by omega, if_true, Option.bind_some, Int.toNat_natCast]
  rw [wid (show -9223372036854775808 ≤ (c + 3 * (i : Int)) + 1 by omega) (by omega), wid (show -9223372036854775808 ≤ (c + 3 * (i : Int) + 1) + 1 by omega) (by omega), wid (show -9223372036854775808 ≤ (c + 3 * (i : Int) + 1 + 1) + 1 by omega) (by omega), wid (show -9223372036854775808 ≤ (i : Int) + 1 by omega) (by omega)]
  have e1 : c + 3 * (i : Int) + 1 + 1 + 1 = c + 3 * ((i + 1 : Nat) : Int) := by omega
  rw [e1]
  have e2 : ∀ (x : S43) (y : S43), (l.set i x).set i y = l.set i y := fun x y => List.set_set ..
  have e3 : ∀ x : S43, rd_T43 (l.set i x) (i : Int) = x := fun x => by rw [rd_setClueS l i i x hlt, if_pos rfl]
  simp only [e2, e3]
  have e4 : (⟨c + 3 * (i : Int), c + 3 * (i : Int) + 1, c + 3 * (i : Int) + 1 + 1⟩ : S43) = mkClueS c i := by unfold mkClueS; congr 1 <;> omega
  rw [e4]
  exact hE
theorem laws_markClueS.ev (l : List S43) (c : Int) (hc : 0 ≤ c ∧ c ≤ 1000000) (hl : l.length ≤ 1099511627776) : ∃ r : List S43, r.length = l.length ∧ MarkedClueS c r r.length ∧ Ev (fun k => laws_markClueS.f k l c) (c + 3 * (l.length : Int), r) := by
 obtain ⟨r, h1, h2, h3⟩ := laws_markClueS.ev_l c hc l.length hl l.length 0 l rfl (by omega) (fun j h => absurd h (by omega))
 refine ⟨r, h1, by rw [h1]; exact h2, ?_⟩
 unfold laws_markClueS.f
 simpa using h3
theorem laws_heldClueS.ev_l (c : Int) (hc : 0 ≤ c ∧ c ≤ 1000000) (l : List S43) (hn : l.length ≤ 1099511627776) (hm : MarkedClueS c l l.length) (d : Nat) : ∀ i : Nat, i + d = l.length → Ev (fun k => laws_heldClueS.l0 k l (c + 3 * (i : Int)) (i : Int)) (c + 3 * (l.length : Int)) := by
 induction d with
 | zero =>
  intro i hi
  obtain rfl : i = l.length := by omega
  refine Ev.succ ?_
  simp only [laws_heldClueS.l0, show ¬ ((l.length : Int) < (l.length : Int)) by omega, if_false]
  exact Ev.now _
 | succ d ih =>
  intro i hi
  refine Ev.succ ?_
  simp only [laws_heldClueS.l0, show ((i : Int) < (l.length : Int)) by omega, show (0 : Int) ≤ (i : Int) by omega, if_true, hm i (by omega), mkClueS]
  rw [wid (show -9223372036854775808 ≤ (c + 3 * (i : Int)) + 1 by omega) (by omega), wid (show -9223372036854775808 ≤ (c + 3 * (i : Int) + 1) + 1 by omega) (by omega), wid (show -9223372036854775808 ≤ (c + 3 * (i : Int) + 1 + 1) + 1 by omega) (by omega), wid (show -9223372036854775808 ≤ (i : Int) + 1 by omega) (by omega)]
  simp only [show (c + 3 * (i : Int) + 2 = c + 3 * (i : Int) + 1 + 1) by omega, if_true]
  have e1 : c + 3 * (i : Int) + 1 + 1 + 1 = c + 3 * ((i + 1 : Nat) : Int) := by omega
  rw [e1]
  exact ih (i + 1) (by omega)
theorem laws_heldClueS.ev (l : List S43) (c : Int) (hc : 0 ≤ c ∧ c ≤ 1000000) (hn : l.length ≤ 1099511627776) (hm : MarkedClueS c l l.length) : Ev (fun k => laws_heldClueS.f k l c) (c + 3 * (l.length : Int)) := by
 unfold laws_heldClueS.f
 simpa using laws_heldClueS.ev_l c hc l hn hm l.length 0 (by omega)
end Go.Proofs.Ythioojdannlhiaa.P

namespace Go.Proofs.Ythioojdannlhiaa.P
open Go.RowKit Go.Proofs.YthioojdannlhiaaW.PrintWords Go.Proofs.YthioojdannlhiaaW.PrintLast Go.Proofs.YthioojdannlhiaaW.PrintMore
set_option linter.unusedVariables false
set_option linter.unusedSimpArgs false
def cvClue (c : S103) : S43 := ⟨c.f0, c.f1, c.f2⟩
theorem laws_toClueS.ev_l (l : List S103) (hl : l.length ≤ 11728124029610) (d : Nat) : ∀ (i : Nat) (out : List S43), i + d = l.length → out.length = l.length → (∀ j, j < i → out[j]? = (l[j]?).map cvClue) → Ev (fun k => laws_toClueS.l0 k l out (i : Int)) (l.map cvClue) := by
 induction d with
 | zero =>
  intro i out hi ho hj
  refine Ev.succ ?_
  simp only [laws_toClueS.l0, show ¬ ((i : Int) < (l.length : Int)) by omega, if_false]
  refine Ev.const ?_
  congr 1
  refine List.ext_getElem? fun j => ?_
  rw [List.getElem?_map]
  by_cases h : j < i
  ·exact hj j h
  ·rw [List.getElem?_eq_none (by omega), List.getElem?_eq_none (by omega)]; rfl
 | succ d ih =>
  intro i out hi ho hj
  have hlt : i < l.length := by omega
  refine Ev.succ ?_
  simp only [laws_toClueS.l0, show ((i : Int) < (l.length : Int)) by omega, show (0 : Int) ≤ (i : Int) by omega, show ((i : Int) < (out.length : Int)) by omega, if_true, laws_toClue.f, Option.bind_some, Int.toNat_natCast]
  rw [wid (show -9223372036854775808 ≤ (i : Int) + 1 by omega) (by omega)]
  have := ih (i + 1) (out.set i (cvClue l[i])) (by omega) (by simpa using ho) (fun j hj2 => ?_)
  ·refine ev_eq ?_ rfl
   have e : rd_T103 l (i : Int) = l[i] := by simp [rd_T103, List.getD_eq_getElem?_getD, List.getElem?_eq_getElem hlt]
   rw [e]
   exact this
  ·by_cases h : j = i
   ·subst h
    rw [List.getElem?_set_self (by omega), List.getElem?_eq_getElem hlt]; rfl
   ·rw [List.getElem?_set_ne (by omega)]
    exact hj j (by omega)
theorem laws_toClueS.ev {l : List S103} (hl : l.length ≤ 11728124029610) : Ev (fun k => laws_toClueS.f k l) (l.map cvClue) := by
 unfold laws_toClueS.f
 simp only [show (0 : Int) ≤ (l.length : Int) by omega, if_true, Int.toNat_natCast, if_pos hl]
 exact laws_toClueS.ev_l l hl l.length 0 _ (by omega) (by simp) (fun j h => absurd h (by omega))
end Go.Proofs.Ythioojdannlhiaa.P

namespace Go.Proofs.Ythioojdannlhiaa.P
open Go.RowKit Go.Proofs.YthioojdannlhiaaW.PrintWords Go.Proofs.YthioojdannlhiaaW.PrintLast Go.Proofs.YthioojdannlhiaaW.PrintMore
set_option linter.unusedVariables false
set_option linter.unusedSimpArgs false
theorem laws_toPuzzle.ev {a : Int} {l : List S103} (hl : l.length ≤ 11728124029610) : Ev (fun k => laws_toPuzzle.f k a l) (a, l.map cvClue) := by
 unfold laws_toPuzzle.f
 exact Ev.bind (laws_toClueS.ev hl) (Ev.now _)
theorem laws_szPuzzle.eq {a : Int} {l : List S103} (hl : l.length ≤ maxLen) : laws_szPuzzle.f a l 1048576 = some (if (l.length : Int) ≤ 1048576 then 1048576 - (l.length : Int) else -1) := by
 unfold maxLen at hl
 unfold laws_szPuzzle.f laws_szClueS.f
 rw [wid (show -9223372036854775808 ≤ (1048576 : Int) - (l.length : Int) by omega) (by omega)]
 by_cases h : (l.length : Int) ≤ 1048576
 ·rw [if_neg (by omega), if_pos h, Option.bind_some, if_neg (by omega)]
 ·rw [if_pos (by omega), if_neg h, Option.bind_some, if_pos (by omega)]
end Go.Proofs.Ythioojdannlhiaa.P

namespace Go.Proofs.Ythioojdannlhiaa.Pure
open Go.RowKit Go.Proofs.YthioojdannlhiaaW.PrintWords Go.Proofs.YthioojdannlhiaaW.PrintLast Go.Proofs.YthioojdannlhiaaW.PrintMore Go.Proofs.Ythioojdannlhiaa.P
set_option linter.unusedVariables false
set_option linter.unusedSimpArgs false
theorem FnExactHarderPuzzle : ∀ (a : Int) (l : List S103), (Lit.int .i64 a).wf = true → l.length ≤ maxLen → (∀ y ∈ l, (Lit.int .i64 y.f0).wf = true ∧ (Lit.int .i64 y.f1).wf = true ∧ (Lit.int .i64 y.f2).wf = true) → ∃ k, laws_FnExactHarderPuzzle.f k a l = some true := fun a l _ hl _ => by
 by_cases big : (l.length : Int) ≤ 1048576
 ·have hl2 : l.length ≤ 11728124029610 := by omega
  have hm : (l.map cvClue).length ≤ 4611686018427387904 := by rw [List.length_map]; omega
  refine Ev.rounds ?_
  unfold laws_FnExactHarderPuzzle.f
  refine Ev.bindc (laws_szPuzzle.eq hl) ?_
  simp only [if_pos big, show ¬ ((1048576 : Int) - (l.length : Int) < 0) by omega, if_false]
  refine Ev.bind (laws_toPuzzle.ev hl2) ?_
  refine Ev.bind (spec_HarderPuzzle.ev _ _) ?_
  refine Ev.bind (laws_toPuzzle.ev hl2) ?_
  refine Ev.bind (impl_HarderPuzzle.ev _ _) ?_
  have hn : (mHarder a (l.map cvClue)).2.1.length ≤ 1099511627776 := mHarder_len _ _
  refine Ev.bind (laws_eqPuzzle.refl (a := (mHarder a (l.map cvClue)).1) (l := (mHarder a (l.map cvClue)).2.1) (by omega)) ?_
  simp only [eq_self_iff_true, if_true, bne_self_eq_false, Bool.false_eq_true, if_false]
  refine Ev.succ ?_
  simp only [laws_FnExactHarderPuzzle.j0, Bool.false_eq_true, if_false]
  refine Ev.bind (laws_toPuzzle.ev hl2) ?_
  refine Ev.bind (laws_eqPuzzle.refl hm) ?_
  simp only [if_true]
  obtain ⟨r1, _, _, hr1⟩ := laws_markClueS.ev (l.map cvClue) 1 (by omega) (by rw [List.length_map]; omega)
  refine Ev.bind (a := (1 + 3 * ((l.map cvClue).length : Int), r1)) (by unfold laws_markPuzzle.f; exact Ev.bind hr1 (Ev.now _)) ?_
  simp only [show ¬ (1 + 3 * ((l.map cvClue).length : Int) < 0) by omega, if_false]
  refine Ev.bind (laws_eqPuzzle.refl (a := (mHarder a (l.map cvClue)).1) (l := (mHarder a (l.map cvClue)).2.1) (by omega)) ?_
  simp only [eq_self_iff_true, if_true, bne_self_eq_false, Bool.false_eq_true, if_false]
  refine Ev.succ ?_
  simp only [laws_FnExactHarderPuzzle.j1, Bool.false_eq_true, if_false]
  obtain ⟨r2, hr2, hm2, he2⟩ := laws_markClueS.ev (mHarder a (l.map cvClue)).2.1 1 (by omega) hn
  refine Ev.bind (a := (1 + 3 * ((mHarder a (l.map cvClue)).2.1.length : Int), r2)) (by unfold laws_markPuzzle.f; exact Ev.bind he2 (Ev.now _)) ?_
  have hh := laws_heldClueS.ev r2 1 (by omega) (by omega) hm2
  rw [hr2] at hh
  have hh2 : Ev (fun k => laws_heldPuzzle.f k (mHarder a (l.map cvClue)).1 r2 1) (1 + 3 * ((mHarder a (l.map cvClue)).2.1.length : Int)) := by
   unfold laws_heldPuzzle.f
   refine Ev.bind hh ?_
   simp only [show ¬ (1 + 3 * ((mHarder a (l.map cvClue)).2.1.length : Int) < 0) by omega, if_false]
   exact Ev.now _
  refine Ev.bind hh2 ?_
  simp only [show ¬ (1 + 3 * ((mHarder a (l.map cvClue)).2.1.length : Int) < 0) by omega, if_false, if_true]
  refine Ev.bind (laws_toPuzzle.ev hl2) ?_
  refine Ev.bind (impl_HarderPuzzle.ev _ _) ?_
  refine Ev.bind (laws_eqPuzzle.refl (a := (mHarder a (l.map cvClue)).1) (l := (mHarder a (l.map cvClue)).2.1) (by omega)) ?_
  simp only [eq_self_iff_true, if_true, bne_self_eq_false, Bool.false_eq_true, if_false]
  refine Ev.succ ?_
  simp only [laws_FnExactHarderPuzzle.j2, Bool.false_eq_true, if_false]
  refine Ev.bind hh2 ?_
  simp only [show ¬ (1 + 3 * ((mHarder a (l.map cvClue)).2.1.length : Int) < 0) by omega, if_false, if_true]
  exact Ev.now _
 ·refine ⟨0, ?_⟩
  unfold laws_FnExactHarderPuzzle.f
  rw [laws_szPuzzle.eq hl, if_neg big]
  rfl
end Go.Proofs.Ythioojdannlhiaa.Pure

namespace Go.Proofs.Ythioojdannlhiaa.fnExactHarderPuzzle
open Go.ChangeShapes Go.WideShapes Go.ChangeAt Go.RowKit Go.Deep
open Go.ChangeMaps (open_string shut_string)
open Go.Proofs.YthioojdannlhiaaW.PrintWords Go.Proofs.YthioojdannlhiaaW.PrintLast Go.Proofs.YthioojdannlhiaaW.PrintMore Go.Proofs.Ythioojdannlhiaa.P
set_option linter.unusedVariables false
set_option linter.unusedSimpArgs false
theorem own : ownKnob Try.prog.godebug = none := by kernel_rfl
theorem laidOut : laidOutB Try.prog = true := by kernel_rfl
theorem cof3 : Try.prog.cellsOf 3 = 1 := by kernel_rfl
theorem cof22 : Try.prog.cellsOf 22 = 1 := by kernel_rfl
theorem cof24 : Try.prog.cellsOf 24 = 2 := by kernel_rfl
theorem cof103 : Try.prog.cellsOf 103 = 3 := by kernel_rfl
theorem C_each {α : Type} (d : Kd α) (w : World) (a : Addr) (len : Nat) (hl : len ≤ 9223372036854775807) (P : α → Prop) (h : ∀ i, i < len → ∃ (x : α) (c : List Value), P x ∧ c.length = d.sz ∧ d.K w x c ∧ ∀ j u, c[j]? = some u → w.cell? (a.add (i * d.sz + j)) = some u) : ∃ xs : List α, xs.length = len ∧ Kd.C d w (some a) len xs ∧ ∀ x ∈ xs, P x := by
 refine ⟨List.ofFn fun i : Fin len => Classical.choose (h i.1 i.2), by simp, ⟨by simp, hl, fun _ => ⟨a, rfl, fun j p hj => ?_⟩⟩, fun x hx => ?_⟩
 ·have hjl : j < len := by have := (List.getElem?_eq_some_iff.1 hj).1; simpa using this
  have hp : p = Classical.choose (h j hjl) := by rw [List.getElem?_ofFn, dif_pos hjl] at hj; exact (Option.some.inj hj).symm
  obtain ⟨c, hP, hc, hK, hcell⟩ := Classical.choose_spec (h j hjl)
  exact ⟨c, hc, by rw [hp]; exact hK, hcell⟩
 ·obtain ⟨i, rfl⟩ := (List.mem_ofFn).1 hx
  obtain ⟨c, hP, _⟩ := Classical.choose_spec (h i.1 i.2)
  exact hP
set_option maxRecDepth 100000 in
theorem open0 {H : Type} {enc : TypeId × Value → H} {W : World} {base : Nat} {v : Value} {d : DataW H} {p : List MemPlace} (hv : Value.okWide Try.prog W .any base 24 v) (h : DataW.Trod enc Try.prog W 0 (fun _ => true) true 24 v d p) :
  ∃ (a0_0 : Int) (A0_1 : Option Addr) (c0_1 : Nat) (l0_1 : List S103), v = .agg #[.int .i64 a0_0, .slice A0_1 l0_1.length c0_1] ∧ ((Lit.int .i64 a0_0).wf = true) ∧ (Kd.C k103 W A0_1 l0_1.length l0_1 ∧ l0_1.length ≤ c0_1 ∧ c0_1 ≤ maxLen ∧ (∀ y ∈ l0_1, (Lit.int .i64 y.f0).wf = true ∧ (Lit.int .i64 y.f1).wf = true ∧ (Lit.int .i64 y.f2).wf = true)) := by
 obtain ⟨cs, rfl, hsz⟩ := okWide_struct Try.underlying24 hv
 rw [cof24] at hsz
 obtain ⟨l⟩ := cs
 match l, hsz with
 | [c_0, c_1], _ =>
  obtain ⟨fuel, hf⟩ := h
  have hf : DataW.trod enc Try.prog W 0 (fun _ => true) true fuel 24 [c_0, c_1] = some (d, p) := hf
  obtain ⟨xs1, n2, _, _, _, hl3, hg4⟩ := DataW.trod_struct Try.underlying24 hf
  obtain ⟨y5, y6, rfl⟩ : ∃ y5 y6, xs1 = [y5, y6] := by match xs1, hl3 with | [y5, y6], _ => exact ⟨y5, y6, rfl⟩
  have g7 : DataW.trod enc Try.prog W 0 (fun _ => true) true n2 3 [c_0] = some y5 := by have z_ : DataW.trod enc Try.prog W 0 (fun _ => true) true n2 3 (([c_0, c_1].drop 0).take (Try.prog.cellsOf 3)) = [y5, y6][0]? := hg4 0 _ rfl; rw [cof3] at z_; exact z_
  have g8 : DataW.trod enc Try.prog W 0 (fun _ => true) true n2 22 [c_1] = some y6 := by have z_ : DataW.trod enc Try.prog W 0 (fun _ => true) true n2 22 (([c_0, c_1].drop 1).take (Try.prog.cellsOf 22)) = [y5, y6][1]? := hg4 1 _ rfl; rw [cof22] at z_; exact z_
  obtain ⟨a0_0, e9, _, w0_0⟩ := DataW.trod_int Try.underlying3 g7
  obtain rfl : c_0 = _ := by simpa using e9
  obtain ⟨A0_1, c0_1, l0_1, rfl, w0_1⟩ : ∃ A c l, c_1 = .slice A l.length c ∧ Kd.C k103 W A l.length l ∧ l.length ≤ c ∧ c ≤ maxLen ∧ (∀ y ∈ l, (Lit.int .i64 y.f0).wf = true ∧ (Lit.int .i64 y.f1).wf = true ∧ (Lit.int .i64 y.f2).wf = true) := by
   rcases open_slice Try.underlying22 g8 with ⟨hcs, _⟩ | ⟨ad, len, cap, m, n_, D_, Pl_, hcs, _, hlc, hcm, hm, _, hel⟩
   ·exact ⟨none, 0, [], by simpa using hcs, ⟨rfl, by simp, fun hp => absurd hp (by simp)⟩, by simp, by unfold maxLen; omega, by simp⟩
   ·have hlen : len ≤ 9223372036854775807 := by unfold maxLen at hcm; omega
    have each_ : ∀ i, i < len → ∃ (y : S103) (c : List Value), ((Lit.int .i64 y.f0).wf = true ∧ (Lit.int .i64 y.f1).wf = true ∧ (Lit.int .i64 y.f2).wf = true) ∧ c.length = (k103 : Kd _).sz ∧ (k103 : Kd _).K W y c ∧ ∀ j u, c[j]? = some u → W.cell? (ad.add (i * (k103 : Kd _).sz + j)) = some u := by
     intro i hi
     obtain ⟨cs_, hc_, ht_⟩ := hel i (by simp only [if_true] at hm; omega)
     rw [cof103] at hc_
     obtain ⟨hb_, hn_, hat_⟩ := World.cells?_some hc_
     obtain ⟨u11, u12, u13, rfl⟩ : ∃ u11 u12 u13, cs_ = [u11, u12, u13] := by match cs_, hn_ with | [u11, u12, u13], _ => exact ⟨u11, u12, u13, rfl⟩
     obtain ⟨xs14, n15, _, _, _, hl16, hg17⟩ := DataW.trod_struct Try.underlying103 ht_
     obtain ⟨y18, y19, y20, rfl⟩ : ∃ y18 y19 y20, xs14 = [y18, y19, y20] := by match xs14, hl16 with | [y18, y19, y20], _ => exact ⟨y18, y19, y20, rfl⟩
     have g21 : DataW.trod enc Try.prog W 0 (fun _ => true) true n15 3 [u11] = some y18 := by have z_ : DataW.trod enc Try.prog W 0 (fun _ => true) true n15 3 (([u11, u12, u13].drop 0).take (Try.prog.cellsOf 3)) = [y18, y19, y20][0]? := hg17 0 _ rfl; rw [cof3] at z_; exact z_
     have g22 : DataW.trod enc Try.prog W 0 (fun _ => true) true n15 3 [u12] = some y19 := by have z_ : DataW.trod enc Try.prog W 0 (fun _ => true) true n15 3 (([u11, u12, u13].drop 1).take (Try.prog.cellsOf 3)) = [y18, y19, y20][1]? := hg17 1 _ rfl; rw [cof3] at z_; exact z_
     have g23 : DataW.trod enc Try.prog W 0 (fun _ => true) true n15 3 [u13] = some y20 := by have z_ : DataW.trod enc Try.prog W 0 (fun _ => true) true n15 3 (([u11, u12, u13].drop 2).take (Try.prog.cellsOf 3)) = [y18, y19, y20][2]? := hg17 2 _ rfl; rw [cof3] at z_; exact z_
     obtain ⟨a0_1e0, e24, _, w0_1e0⟩ := DataW.trod_int Try.underlying3 g21
     obtain rfl : u11 = _ := by simpa using e24
     obtain ⟨a0_1e1, e25, _, w0_1e1⟩ := DataW.trod_int Try.underlying3 g22
     obtain rfl : u12 = _ := by simpa using e25
     obtain ⟨a0_1e2, e26, _, w0_1e2⟩ := DataW.trod_int Try.underlying3 g23
     obtain rfl : u13 = _ := by simpa using e26
     refine ⟨(⟨a0_1e0, a0_1e1, a0_1e2⟩ : S103), [.int .i64 a0_1e0, .int .i64 a0_1e1, .int .i64 a0_1e2], ⟨w0_1e0, w0_1e1, w0_1e2⟩, rfl, (k103_mk W _), fun j u hu => ?_⟩
     have hj : j < 3 := by have := (List.getElem?_eq_some_iff.1 hu).1; simpa using this
     have h1_ := hat_ j hj
     have hs_ : (k103 : Kd _).sz = 3 := rfl
     rw [hs_, ← Go.Deep.add_add, h1_]; exact hu
    obtain ⟨xs_, hx_, hC_, hP_⟩ := C_each k103 W ad len hlen (fun y => (Lit.int .i64 y.f0).wf = true ∧ (Lit.int .i64 y.f1).wf = true ∧ (Lit.int .i64 y.f2).wf = true) each_
    exact ⟨some ad, cap, xs_, by rw [hx_]; simpa using hcs, by rw [hx_]; exact hC_, by omega, hcm, hP_⟩
  exact ⟨_, _, _, _, rfl, w0_0, w0_1⟩
set_option maxRecDepth 100000 in
theorem lifted (os : Os) (started : os.Started) (H : Type) (enc : TypeId × Value → H) :
  ReturnsInHanded {} Try.checked os 3 .any (Rows.fnExactHarderPuzzleSpec.pre6 enc Try.prog Try.f3 Rows.fnExactHarderPuzzleRow.domain false) (Rows.fnExactHarderPuzzleSpec.post enc Try.prog Try.f3 false true false false) := by
 refine returnsInHanded_of_change_sized (C := Try.checked) own started (by kernel_rfl) Try.func3
  (ChangeSpec.witness6 (enc := enc) (C := Try.checked) false ⟨#[], #[.agg #[.int .i64 0, .slice none 0 0]], []⟩ 8 (by kernel_rfl) (by kernel_rfl) (by kernel_rfl) (by kernel_rfl)) ?_
 intro W base args ds gs before hval0 hW hcnd hsz0 _
 have hsz : (DataW.weightsEach Try.prog (Try.f3.params.toList ++ Rows.fnExactHarderPuzzleSpec.plain.varTypes Try.prog) (ds ++ gs)).all (· ≤ reachBytes) = true := hsz0
 have hval : ∀ (j : Nat) t v, Try.f3.params[j]? = some t → args[j]? = some v → Value.okWide Try.prog W .any base t v := hval0
 have hW' := hW
 obtain ⟨p, q, hA0, hV, rfl, hfz, hnd⟩ := hW
 have hA : DataW.TrodAll enc Try.prog W 0 (fun _ => true) true Try.f3.params.toList args.toList ds p := hA0
 rw [Try.params3] at hA hval hsz
 obtain ⟨v0, vs0, d0, ds0, p0, q0, hargs, rfl, rfl, h0, r0⟩ := trodAll_cons hA
 obtain ⟨rfl, rfl, rfl⟩ := trodAll_nil r0
 obtain rfl : args = #[v0] := by cases args; simp_all
 obtain ⟨rfl, rfl⟩ := trodVars_none hV
 have k0 := h0
 have lt0 : ∀ x ∈ p0, x.block < W.heap.size := by obtain ⟨m, hm⟩ := k0; exact DataW.trod_lt m _ _ _ hm
 obtain ⟨a0_0, A0_1, c0_1, l0_1, rfl, w0_0, ⟨hr0_1, hc0_1, hm0_1, w0_1⟩⟩ := open0 (hval 0 24 v0 rfl rfl) h0
 clear hA0 hval0 hsz0 hsz
 obtain ⟨kk, hk⟩ := Pure.FnExactHarderPuzzle a0_0 l0_1 w0_0 (Nat.le_trans hc0_1 hm0_1) w0_1
 refine (P.laws_FnExactHarderPuzzle.calls kk a0_0 _ _ l0_1 true W hr0_1 hc0_1 hk rfl).mono fun e W' ⟨he, bel0⟩ => ?_
 have bel : Below W.heap.size W W' := bel0
 subst he
 exact ⟨_, rfl, _, _, _, [], _, [], hW', trodAll_mk1 (shut_bool Try.underlying4 _), (trodAll_cons_mk (Below.trod laidOut (by kernel_rfl) (of_decide_eq_true (by kernel_rfl)) k0 bel lt0) trodAll_mk0), rfl, bel.frame _, fun h => by cases h⟩
theorem over : Rows.fnExactHarderPuzzleRow.holds Try.pinned (OpenSpec.ofChange Rows.fnExactHarderPuzzleSpec) :=
 OpenClaim.holds_of_wide 3 Try.f3 rfl rfl rfl rfl rfl rfl rfl ⟨rfl, rfl, rfl, rfl, rfl⟩ rfl rfl rfl rfl rfl (by kernel_rfl) Try.func3 (by kernel_rfl)
  (of_decide_eq_true (by kernel_rfl)) (by unfold Func.isWrapper; first | (rw [if_pos (by decide +kernel)]; kernel_rfl) | (rw [if_neg (by decide +kernel)]; exact ⟨rfl, rfl⟩))
  (fun os started H enc _ => lifted os started H enc)
theorem proved : Rows.FnExactHarderPuzzleSaid := over
end Go.Proofs.Ythioojdannlhiaa.fnExactHarderPuzzle
namespace Go.Proofs.Ythioojdannlhiaa
/-- The row, under a short name, for the claim. -/
theorem fnExactHarderPuzzle_holds : Rows.FnExactHarderPuzzleSaid := fnExactHarderPuzzle.proved
end Go.Proofs.Ythioojdannlhiaa
