/- The law FnExactAddClue is proved: a call of it returns true and leaves its arguments as they were; and what this needs. Every input that the given rows speak of; nothing else is asked. -/
import Derived.Test.YtbdjidjcmmeanaaOFnExactAddClue0
import Derived.Test.YtbdjidjcmmeanaaOFnExactAddClue1
import Derived.Test.YtbdjidjcmmeanaaOFnExactAddClue2
namespace Go.Proofs.Ytbdjidjcmmeanaa.P
open Go.RowKit Go.Proofs.YtbdjidjcmmeanaaW.PrintWords Go.Proofs.YtbdjidjcmmeanaaW.PrintLast Go.Proofs.YtbdjidjcmmeanaaW.PrintMore
set_option linter.unusedVariables false
theorem zO3_0 {p : Prop} (h : p := by repeat (first | (with_reducible first | exact HB.out | apply below_alloc | apply pw_below_drewN | apply below_drew1 | refine below_set ?_ GE208.out | refine below_set ?_ GE209.out | refine below_set ?_ GE223.out | refine below_set ?_ GE228.out | refine below_set ?_ GE237.out | refine below_set ?_ GE262.out) | exact HB.out)) : p := h
theorem zO3_1 {p : Prop} (h : p := by repeat (first | (with_reducible first | exact HB.out | apply below_alloc | apply pw_below_drewN | apply below_drew1 | refine below_set ?_ GE208.out | refine below_set ?_ GE209.out | refine below_set ?_ GE223.out | refine below_set ?_ GE228.out | refine below_set ?_ GE237.out) | exact HB.out)) : p := h
theorem zO3_2 {p : Prop} (h : p := by repeat (first | (with_reducible first | exact HB.out | apply below_alloc | apply pw_below_drewN | apply below_drew1 | refine below_set ?_ GE208.out | refine below_set ?_ GE209.out | refine below_set ?_ GE223.out | refine below_set ?_ GE228.out) | exact HB.out)) : p := h
theorem zO3_3 {p : Prop} (h : p := by repeat (first | (with_reducible first | exact HB.out | apply below_alloc | apply pw_below_drewN | apply below_drew1 | refine below_set ?_ GE208.out | refine below_set ?_ GE209.out | refine below_set ?_ GE223.out) | exact HB.out)) : p := h
theorem zO3_4 {p : Prop} (h : p := by repeat (first | (with_reducible first | exact HB.out | apply below_alloc | apply pw_below_drewN | apply below_drew1 | refine below_set ?_ GE208.out | refine below_set ?_ GE209.out) | exact HB.out)) : p := h
theorem zO3_5 {p : Prop} (h : p := by (with_reducible repeat (first | apply Kd.R_alloc | apply Kd.R_drewN | apply Kd.R_drew)); exact Kd.R_mono HO_224001.out (fun _ hk => ⟨hk.1.2, ⟨hk.2, ⟨hk.1.1.1, hk.1.1.2⟩⟩⟩)) : p := h
theorem zO3_6 {p : Prop} (h : p := by (with_reducible repeat (first | apply Kd.R_alloc | apply Kd.R_drewN | apply Kd.R_drew)); exact Kd.R_mono HO_229001.out (fun _ hk => ⟨hk.1.2, ⟨hk.2, ⟨hk.1.1.1, hk.1.1.2⟩⟩⟩)) : p := h
theorem zO3_7 {p : Prop} (h : p := by (with_reducible repeat (first | apply Kd.R_alloc | apply Kd.R_drewN | apply Kd.R_drew)); exact Kd.R_mono HO_238001.out (fun _ hk => ⟨hk.1.2, ⟨hk.2, ⟨hk.1.1.1, hk.1.1.2⟩⟩⟩)) : p := h
theorem zO3_8 {p : Prop} (h : p := by (with_reducible repeat (first | apply Kd.R_alloc | apply Kd.R_drewN | apply Kd.R_drew)); exact Kd.R_mono HO253.out (fun _ hk => ⟨hk.2, ⟨hk.1.1.1.2, ⟨hk.1.1.2, hk.1.2⟩⟩⟩)) : p := h
theorem zO3_9 {p : Prop} (h : p := by (with_reducible repeat (first | apply Kd.R_alloc | apply Kd.R_drewN | apply Kd.R_drew)); exact Kd.R_mono HO260.out (fun _ hk => ⟨hk.2, ⟨hk.1.1.1.2, ⟨hk.1.1.2, hk.1.2⟩⟩⟩)) : p := h
theorem zO3_10 {p : Prop} (h : p := by repeat (first | (with_reducible first | exact HB.out | apply below_alloc | apply pw_below_drewN | apply below_drew1 | refine below_set ?_ GE208.out) | exact HB.out)) : p := h
theorem zO3_11 {p : Prop} (h : p := by (with_reducible repeat (first | apply Kd.R_alloc | apply Kd.R_drewN | apply Kd.R_drew)); exact Kd.R_mono HO235.out (fun _ hk => ⟨hk.1.1.2, ⟨hk.1.2, hk.2⟩⟩)) : p := h
theorem zO3_12 {p : Prop} (h : p := by (with_reducible repeat (first | apply Kd.R_alloc | apply Kd.R_drewN | apply Kd.R_drew)); exact Kd.R_mono HO214.out (fun _ hk => ⟨hk.1.1, ⟨hk.1.2, hk.2⟩⟩)) : p := h
theorem zO3_13 {p : Prop} (h : p := by (with_reducible repeat (first | apply Kd.R_alloc | apply Kd.R_drewN | apply Kd.R_drew)); exact Kd.R_mono HO221.out (fun _ hk => ⟨hk.1.1, ⟨hk.1.2, hk.2⟩⟩)) : p := h
theorem zO3_14 {p : Prop} (h : p := by (with_reducible repeat (first | apply Kd.R_alloc | apply Kd.R_drewN | apply Kd.R_drew)); exact Kd.R_mono HO227.out (fun _ hk => ⟨hk.1.1, ⟨hk.1.2, hk.2⟩⟩)) : p := h
theorem zO3_15 {p : Prop} (h : p := by (try simp only [List.map_toArray, List.map_cons, List.map_nil]); first | done | rfl | (simp only [List.length_drop, List.length_take]; rfl)) : p := h
theorem zO3_16 {p : Prop} (h : p := by (with_reducible repeat (first | apply Kd.R_alloc | apply Kd.R_drewN | apply Kd.R_drew)); exact Kd.R_mono HO214.out (fun _ hk => hk.2)) : p := h
theorem zO3_17 {p : Prop} (h : p := by (with_reducible repeat (first | apply Kd.R_alloc | apply Kd.R_drewN | apply Kd.R_drew)); exact Kd.R_mono HO221.out (fun _ hk => hk.2)) : p := h
theorem zO3_18 {p : Prop} (h : p := by repeat (first | (with_reducible first | exact HB.out | apply below_alloc | apply pw_below_drewN | apply below_drew1) | exact HB.out)) : p := h
theorem zO3_19 {p : Prop} (h : p := by (with_reducible repeat (first | refine blk_drewN ?_ _ | refine blk_drew ?_ | refine blk_alloc ?_ _)); exact BK208.out) : p := h
theorem zO3_20 {p : Prop} (h : p := by (with_reducible repeat (first | refine blk_drewN ?_ _ | refine blk_drew ?_ | refine blk_alloc ?_ _)); exact BK209.out) : p := h
theorem zO3_21 {p : Prop} (h : p := by (with_reducible repeat (first | refine blk_drewN ?_ _ | refine blk_drew ?_ | refine blk_alloc ?_ _)); exact BK223.out) : p := h
theorem zO3_22 {p : Prop} (h : p := by (with_reducible repeat (first | refine blk_drewN ?_ _ | refine blk_drew ?_ | refine blk_alloc ?_ _)); exact BK228.out) : p := h
theorem zO3_23 {p : Prop} (h : p := by (with_reducible repeat (first | refine blk_drewN ?_ _ | refine blk_drew ?_ | refine blk_alloc ?_ _)); exact BK237.out) : p := h
theorem zO3_24 {p : Prop} (h : p := by (with_reducible repeat (first | refine blk_drewN ?_ _ | refine blk_drew ?_ | refine blk_alloc ?_ _)); exact BK262.out) : p := h
theorem zO3_25 {p : Prop} (h : p := by (with_reducible repeat (first | apply Kd.R_alloc | apply Kd.R_drewN | apply Kd.R_drew)); exact HO_224001.out) : p := h
theorem zO3_26 {p : Prop} (h : p := by (with_reducible repeat (first | apply Kd.R_alloc | apply Kd.R_drewN | apply Kd.R_drew)); exact HO_229001.out) : p := h
theorem zO3_27 {p : Prop} (h : p := by (with_reducible repeat (first | apply Kd.R_alloc | apply Kd.R_drewN | apply Kd.R_drew)); exact HO_238001.out) : p := h
theorem zO3_28 {p : Prop} (h : p := by (with_reducible repeat (first | apply Kd.R_alloc | apply Kd.R_drewN | apply Kd.R_drew)); exact HO214.out) : p := h
theorem zO3_29 {p : Prop} (h : p := by (with_reducible repeat (first | apply Kd.R_alloc | apply Kd.R_drewN | apply Kd.R_drew)); exact HO221.out) : p := h
theorem zO3_30 {p : Prop} (h : p := by (with_reducible repeat (first | apply Kd.R_alloc | apply Kd.R_drewN | apply Kd.R_drew)); exact HO227.out) : p := h
theorem zO3_31 {p : Prop} (h : p := by (with_reducible repeat (first | apply Kd.R_alloc | apply Kd.R_drewN | apply Kd.R_drew)); exact HO242.out) : p := h
theorem zO3_32 {p : Prop} (h : p := by (with_reducible repeat (first | apply Kd.R_alloc | apply Kd.R_drewN | apply Kd.R_drew)); exact HO253.out) : p := h
theorem zO3_33 {p : Prop} (h : p := by simp only [putAll, Act.put, List.setIfInBounds_toArray, List.set_cons_zero, List.set_cons_succ]) : p := h
theorem zO3_34 {p : Prop} (h : p := by first | rfl | (simp; done) | (simp [*]; done)) : p := h
end Go.Proofs.Ytbdjidjcmmeanaa.P
namespace Go.Proofs.Ytbdjidjcmmeanaa.P
open Go.RowKit Go.Proofs.YtbdjidjcmmeanaaW.PrintWords Go.Proofs.YtbdjidjcmmeanaaW.PrintLast Go.Proofs.YtbdjidjcmmeanaaW.PrintMore
attribute [local go_sem] max2_int min2_int max_two min_two max_three min_three max_four min_four   -- for this text's walks alone
set_option linter.unusedVariables false
set_option linter.unusedSimpArgs false

/-! ### laws_FnExactAddClue: function 4 -/
mutual
def laws_FnExactAddClue.j0 : Nat → Bool → Bool → Bool → Int → List (S34) → Int → Int → Int → Int → List (S37) → Int → List (S37) → Int → List (S37) → Option (Bool)
  | 0, _, _, _, _, _, _, _, _, _, _, _, _, _, _ => none
  | k + 1, x7, x10, x46, x209000, x209001, x210000, x210001, x210002, x224000, x224001, x229000, x229001, x238000, x238001 => if x46 = true then (some false) else ((laws_toPuzzle.f k x209000 x209001).bind fun bt239 => ((laws_eqPuzzle.f k x229000 x229001 bt239.1 bt239.2).bind fun t243 => (if t243 = true then ((laws_markPuzzle.f k x229000 x229001 1).bind fun bt244 => (if bt244.1 < 0 then (laws_FnExactAddClue.j1 k x7 true x209000 x209001 x210000 x210001 x210002 x224000 x224001 x238000 x238001) else ((laws_eqPuzzle.f k x238000 x238001 x224000 x224001).bind fun t246 => (if t246 = true then (laws_FnExactAddClue.j1 k x7 (x10 != x7) x209000 x209001 x210000 x210001 x210002 x224000 x224001 x238000 x238001) else (laws_FnExactAddClue.j1 k x7 true x209000 x209001 x210000 x210001 x210002 x224000 x224001 x238000 x238001))))) else (some false))))
def laws_FnExactAddClue.j1 : Nat → Bool → Bool → Int → List (S34) → Int → Int → Int → Int → List (S37) → Int → List (S37) → Option (Bool)
  | 0, _, _, _, _, _, _, _, _, _, _, _ => none
  | k + 1, x7, x67, x209000, x209001, x210000, x210001, x210002, x224000, x224001, x238000, x238001 => if x67 = true then (some false) else ((laws_markPuzzle.f k x238000 x238001 1).bind fun bt247 => ((laws_heldPuzzle.f k x238000 bt247.2 1).bind fun t249 => (if t249 < 0 then (some false) else (if t249 = bt247.1 then ((laws_toPuzzle.f k x209000 x209001).bind fun bt250 => ((laws_toClue.f x210000 x210001 x210002).bind fun bt254 => ((impl_AddClue.f k bt250.1 bt250.2 bt254.1 bt254.2.1 bt254.2.2).bind fun bt257 => ((laws_eqPuzzle.f k bt257.1 bt257.2.1 x224000 x224001).bind fun t263 => (if t263 = true then (laws_FnExactAddClue.j2 k bt247.1 (bt257.2.2 != x7) x238000 bt247.2) else (laws_FnExactAddClue.j2 k bt247.1 true x238000 bt247.2)))))) else (some false)))))
def laws_FnExactAddClue.j2 : Nat → Int → Bool → Int → List (S37) → Option (Bool)
  | 0, _, _, _, _ => none
  | k + 1, x12, x95, x238000, x238001 => if x95 = true then (some false) else ((laws_heldPuzzle.f k x238000 x238001 1).bind fun t264 => (if t264 < 0 then (some false) else (if t264 = x12 then (some true) else (some false))))
end
def laws_FnExactAddClue.f (k : Nat) (a0_0 : Int) (l0_1 : List (S34)) (a1_0 : Int) (a1_1 : Int) (a1_2 : Int) : Option (Bool) := (laws_szPuzzle.f a0_0 l0_1 1048576).bind fun t210 => (if t210 < 0 then (some true) else ((laws_toPuzzle.f k a0_0 l0_1).bind fun bt211 => ((laws_toClue.f a1_0 a1_1 a1_2).bind fun bt215 => ((spec_AddClue.f k bt211.1 bt211.2 bt215.1 bt215.2.1 bt215.2.2).bind fun bt218 => ((laws_toPuzzle.f k a0_0 l0_1).bind fun bt224 => ((laws_toClue.f a1_0 a1_1 a1_2).bind fun bt229 => ((impl_AddClue.f k bt224.1 bt224.2 bt229.1 bt229.2.1 bt229.2.2).bind fun bt232 => ((laws_eqPuzzle.f k bt232.1 bt232.2.1 bt218.1 bt218.2.1).bind fun t238 => (if t238 = true then (laws_FnExactAddClue.j0 k bt218.2.2 bt232.2.2 (bt232.2.2 != bt218.2.2) a0_0 l0_1 a1_0 a1_1 a1_2 bt218.1 bt218.2.1 bt224.1 bt224.2 bt232.1 bt232.2.1) else (laws_FnExactAddClue.j0 k bt218.2.2 bt232.2.2 true a0_0 l0_1 a1_0 a1_1 a1_2 bt218.1 bt218.2.1 bt224.1 bt224.2 bt232.1 bt232.2.1))))))))))
theorem laws_FnExactAddClue.j0_true : ∀ k x0 x1 x3 x4 x5 x6 x7 x8 x9 x10 x11 x12 x13 r, laws_FnExactAddClue.j0 k x0 x1 true x3 x4 x5 x6 x7 x8 x9 x10 x11 x12 x13 = some r → r = false := by
  intro k x0 x1 x3 x4 x5 x6 x7 x8 x9 x10 x11 x12 x13 r h
  cases k with
  | zero => simp [laws_FnExactAddClue.j0] at h
  | succ k => simp only [laws_FnExactAddClue.j0, if_true] at h; exact (Option.some.inj h).symm
theorem laws_FnExactAddClue.j1_true : ∀ k x0 x2 x3 x4 x5 x6 x7 x8 x9 x10 r, laws_FnExactAddClue.j1 k x0 true x2 x3 x4 x5 x6 x7 x8 x9 x10 = some r → r = false := by
  intro k x0 x2 x3 x4 x5 x6 x7 x8 x9 x10 r h
  cases k with
  | zero => simp [laws_FnExactAddClue.j1] at h
  | succ k => simp only [laws_FnExactAddClue.j1, if_true] at h; exact (Option.some.inj h).symm
theorem laws_FnExactAddClue.j2_true : ∀ k x0 x2 x3 r, laws_FnExactAddClue.j2 k x0 true x2 x3 = some r → r = false := by
  intro k x0 x2 x3 r h
  cases k with
  | zero => simp [laws_FnExactAddClue.j2] at h
  | succ k => simp only [laws_FnExactAddClue.j2, if_true] at h; exact (Option.some.inj h).symm
def laws_FnExactAddClue.T5 : Bool × List (List Nat × List Nat) := (true, [([], []), ([0], [0]), ([], []), ([2, 1], [2]), ([1, 3, 3], [1, 3]), ([4], [4]), ([5], [5]), ([5], [5]), ([], []), ([8, 6, 4, 0, 1, 2, 3, 4, 5, 6, 8], [6, 8]), ([7, 9, 0, 1, 2, 3, 4, 5, 6, 7, 8, 9], [7])])
def laws_FnExactAddClue.B5 : List Nat := [0, 1, 0, 7, 15, 31, 63, 63, 0, 383, 1023]
theorem laws_FnExactAddClue.tab5 : rtab .any (opsOf Try.f4 5) = laws_FnExactAddClue.T5 := by kernel_rfl
theorem laws_FnExactAddClue.bits5 : waitsOk laws_FnExactAddClue.T5.2 laws_FnExactAddClue.B5 = true := by kernel_rfl
def laws_FnExactAddClue.T7 : Bool × List (List Nat × List Nat) := (true, [([], []), ([], []), ([1], [1]), ([0, 2, 2], [0, 2]), ([3], [3]), ([4], [4]), ([4], [4]), ([], []), ([7, 5, 3, 0, 1, 2, 3, 4, 5, 7], [5, 7]), ([6, 8, 0, 1, 2, 3, 4, 5, 6, 7, 8], [6])])
def laws_FnExactAddClue.B7 : List Nat := [0, 0, 2, 7, 15, 31, 31, 0, 191, 511]
theorem laws_FnExactAddClue.tab7 : rtab .any (opsOf Try.f4 7) = laws_FnExactAddClue.T7 := by kernel_rfl
theorem laws_FnExactAddClue.bits7 : waitsOk laws_FnExactAddClue.T7.2 laws_FnExactAddClue.B7 = true := by kernel_rfl
def laws_FnExactAddClue.T24 : Bool × List (List Nat × List Nat) := (true, [([], []), ([0], [0]), ([], []), ([2, 1], [2]), ([1, 3, 3], [1, 3]), ([4], [4]), ([5], [5]), ([5], [5]), ([], []), ([8, 6, 4, 0, 1, 2, 3, 4, 5, 6, 8], [6, 8]), ([7, 9, 0, 1, 2, 3, 4, 5, 6, 7, 8, 9], [7])])
def laws_FnExactAddClue.B24 : List Nat := [0, 1, 0, 7, 15, 31, 63, 63, 0, 383, 1023]
theorem laws_FnExactAddClue.tab24 : rtab .any (opsOf Try.f4 24) = laws_FnExactAddClue.T24 := by kernel_rfl
theorem laws_FnExactAddClue.bits24 : waitsOk laws_FnExactAddClue.T24.2 laws_FnExactAddClue.B24 = true := by kernel_rfl
set_option maxHeartbeats 8000000 in
set_option maxRecDepth 100000 in
theorem laws_FnExactAddClue.calls (k : Nat) (a0_0 : Int) (A0_1 : Option Addr) (c0_1 : Nat) (l0_1 : List (S34)) (a1_0 : Int) (a1_1 : Int) (a1_2 : Int) (r : Bool) (w : World) (hr0_1 : Kd.C k34 w A0_1 l0_1.length l0_1) (hc0_1 : l0_1.length ≤ c0_1) (h : laws_FnExactAddClue.f k a0_0 l0_1 a1_0 a1_1 a1_2 = some r) (hr_ : r = true) :
    Calls Try.prog 4 #[.agg #[.int .i64 a0_0, .slice A0_1 l0_1.length c0_1], .agg #[.int .i64 a1_0, .int .i64 a1_1, .int .i64 a1_2]] w fun e w' => e = .returned (.bool r) ∧ Below w.heap.size w w' := by
  have HR_ := Aside0.mk hr_
  clear hr_; have hu24 := Try.underlying24; have hu34 := Try.underlying34; have hu29 := Try.underlying29
  have HR0_1 := Aside0.mk hr0_1
  have HC0_1 := Aside0.mk hc0_1
  clear hr0_1 hc0_1
  have HB := Aside0.mk (Below.refl w.heap.size w)
  have H : ((laws_szPuzzle.f a0_0 l0_1 1048576).bind fun t210 => (if t210 < 0 then (some true) else ((laws_toPuzzle.f k a0_0 l0_1).bind fun bt211 => ((laws_toClue.f a1_0 a1_1 a1_2).bind fun bt215 => ((spec_AddClue.f k bt211.1 bt211.2 bt215.1 bt215.2.1 bt215.2.2).bind fun bt218 => ((laws_toPuzzle.f k a0_0 l0_1).bind fun bt224 => ((laws_toClue.f a1_0 a1_1 a1_2).bind fun bt229 => ((impl_AddClue.f k bt224.1 bt224.2 bt229.1 bt229.2.1 bt229.2.2).bind fun bt232 => ((laws_eqPuzzle.f k bt232.1 bt232.2.1 bt218.1 bt218.2.1).bind fun t238 => (if t238 = true then (laws_FnExactAddClue.j0 k bt218.2.2 bt232.2.2 (bt232.2.2 != bt218.2.2) a0_0 l0_1 a1_0 a1_1 a1_2 bt218.1 bt218.2.1 bt224.1 bt224.2 bt232.1 bt232.2.1) else (laws_FnExactAddClue.j0 k bt218.2.2 bt232.2.2 true a0_0 l0_1 a1_0 a1_1 a1_2 bt218.1 bt218.2.1 bt224.1 bt224.2 bt232.1 bt232.2.1))))))))))) = some r := h
  clear h; replace H := Option.bind_eq_some_iff.mp H
  obtain ⟨t210, A30, H⟩ := H
  replace H : (if t210 < 0 then (some true) else ((laws_toPuzzle.f k a0_0 l0_1).bind fun bt211 => ((laws_toClue.f a1_0 a1_1 a1_2).bind fun bt215 => ((spec_AddClue.f k bt211.1 bt211.2 bt215.1 bt215.2.1 bt215.2.2).bind fun bt218 => ((laws_toPuzzle.f k a0_0 l0_1).bind fun bt224 => ((laws_toClue.f a1_0 a1_1 a1_2).bind fun bt229 => ((impl_AddClue.f k bt224.1 bt224.2 bt229.1 bt229.2.1 bt229.2.2).bind fun bt232 => ((laws_eqPuzzle.f k bt232.1 bt232.2.1 bt218.1 bt218.2.1).bind fun t238 => (if t238 = true then (laws_FnExactAddClue.j0 k bt218.2.2 bt232.2.2 (bt232.2.2 != bt218.2.2) a0_0 l0_1 a1_0 a1_1 a1_2 bt218.1 bt218.2.1 bt224.1 bt224.2 bt232.1 bt232.2.1) else (laws_FnExactAddClue.j0 k bt218.2.2 bt232.2.2 true a0_0 l0_1 a1_0 a1_1 a1_2 bt218.1 bt218.2.1 bt224.1 bt224.2 bt232.1 bt232.2.1)))))))))) = some r := H
  have A3 := Aside0.mk A30
  clear A30
  by_cases c4 : t210 < 0
  · rw [if_pos c4] at H
    have c4b0 : decide (t210 < 0) = true := decide_eq_true c4; clear c4
    obtain rfl := Option.some.inj H
    go_enter Try.func4, Try.ntmps4
    go_wp2_with (first | ((with_reducible refine gate_dst (N := 2) rfl ?_); refine box_event ?hg (N := 2) ?hd (cs := #[.int .i64 a0_0, .slice A0_1 l0_1.length c0_1]) (t := 24) ?hr ?_; (case hd => rfl); (case hg => rfl); (case hr => first | (go_simp; done) | (go_simp; rfl)); intro gb208 hg w5 hbox hb; have n0_ := Aside0.mk (below_step zO3_18 hb); have n1_ := Aside0.mk (hbox); have n2_ := Aside0.mk ((by rw [hg]; exact (below_size zO3_18) : w.heap.size ≤ gb208)); have n3_ := Aside0.mk ((by rw [hg]; exact (below_size zO3_18) : w.heap.size ≤ gb208)); clear HB; have HB := n0_; have BK208 := n1_; have GW208 := n2_; have GE208 := n3_; clear n0_ n1_ n2_ n3_; clear hb hbox hg) | ((with_reducible refine gate_dst (N := 3) rfl ?_); refine box_event ?hg (N := 3) ?hd (cs := #[.int .i64 a1_0, .int .i64 a1_1, .int .i64 a1_2]) (t := 34) ?hr ?_; (case hd => rfl); (case hg => rfl); (case hr => first | (go_simp; done) | (go_simp; rfl)); intro gb209 hg w6 hbox hb; have n0_ := Aside0.mk (blk_below (g := gb208) (o := .cells #[.int .i64 a0_0, .slice A0_1 l0_1.length c0_1] 24 (0, 0)) zO3_19 hb); have n1_ := Aside0.mk (below_step zO3_10 hb); have n2_ := Aside0.mk (hbox); have n3_ := Aside0.mk ((by rw [hg]; exact (below_size zO3_10) : w.heap.size ≤ gb209)); have n4_ := Aside0.mk ((by rw [hg]; exact (below_size zO3_10) : w.heap.size ≤ gb209)); have n5_ := Aside0.mk ((by rw [hg]; exact Nat.ne_of_lt (blk_lt (g := gb208) (o := .cells #[.int .i64 a0_0, .slice A0_1 l0_1.length c0_1] 24 (0, 0)) zO3_19) : gb208 ≠ gb209)); have n6_ := Aside0.mk ((by rw [hg]; exact Nat.ne_of_gt (blk_lt (g := gb208) (o := .cells #[.int .i64 a0_0, .slice A0_1 l0_1.length c0_1] 24 (0, 0)) zO3_19) : gb209 ≠ gb208)); clear BK208; clear HB; have BK208 := n0_; have HB := n1_; have BK209 := n2_; have GW209 := n3_; have GE209 := n4_; have NB208_209 := n5_; have NB209_208 := n6_; clear n0_ n1_ n2_ n3_ n4_ n5_ n6_; clear hb hbox hg; have hnb7 := NB208_209.out; have hnc7 := NB209_208.out; have hcz8_0 : w6.cell? ⟨gb208, 0, none⟩ = some (.int .i64 a0_0) := (blk_cell BK208.out 0).trans rfl; have hcz8_1 : w6.cell? ⟨gb208, 1, none⟩ = some (.slice A0_1 l0_1.length c0_1) := (blk_cell BK208.out 1).trans rfl; have hfz8_0 := blk_frozen BK208.out 0; have hfz8_1 := blk_frozen BK208.out 1) | ((with_reducible refine gate_callee (f := 15) rfl ?_); refine goesL_ (some 18) rfl rfl Try.func15 (by kernel_rfl) rfl #[.agg #[.int .i64 a0_0, .slice A0_1 l0_1.length c0_1], .int .i64 1048576] rfl zO3_15 ?_; (with_reducible refine (laws_szPuzzle.calls a0_0 _ _ l0_1 1048576 t210 _ ?side1 ?side2 A3.out).mono ?_); (case side1 => repeat (first | exact (Kd.C_below HR0_1.out HB.out) | (with_reducible refine Kd.C_alloc ?_ _) | (with_reducible refine Kd.C_drewN ?_ _) | (with_reducible refine Kd.C_drew ?_))); (case side2 => exact HC0_1.out); rintro e w9 ⟨rfl, hb⟩; refine ⟨_, rfl, ?_⟩; have n0_ := Aside0.mk (blk_below (g := gb208) (o := .cells #[.int .i64 a0_0, .slice A0_1 l0_1.length c0_1] 24 (0, 0)) zO3_19 hb); have n1_ := Aside0.mk (blk_below (g := gb209) (o := .cells #[.int .i64 a1_0, .int .i64 a1_1, .int .i64 a1_2] 34 (0, 0)) zO3_20 hb); have n2_ := Aside0.mk (below_step zO3_4 hb); clear BK208; clear BK209; clear HB; have BK208 := n0_; have BK209 := n1_; have HB := n2_; clear n0_ n1_ n2_; (try clear hb); (try clear hb2); (try clear hk); (try clear hi)))
    go_ret
    exact ⟨by first | rfl | (simp [errW_none, errW_some] <;> rfl) | (simp [*, errW_none, errW_some] <;> rfl), by repeat (first | (with_reducible first | exact HB.out | apply below_alloc | apply pw_below_drewN | apply below_drew1 | refine below_set ?_ GE208.out | refine below_set ?_ GE209.out) | exact HB.out)⟩
  · rw [if_neg c4] at H
    have c4b0 : decide (t210 < 0) = false := decide_eq_false c4; clear c4; replace H := Option.bind_eq_some_iff.mp H
    obtain ⟨⟨t211, t212⟩, A100, H⟩ := H
    replace H : ((laws_toClue.f a1_0 a1_1 a1_2).bind fun bt215 => ((spec_AddClue.f k t211 t212 bt215.1 bt215.2.1 bt215.2.2).bind fun bt218 => ((laws_toPuzzle.f k a0_0 l0_1).bind fun bt224 => ((laws_toClue.f a1_0 a1_1 a1_2).bind fun bt229 => ((impl_AddClue.f k bt224.1 bt224.2 bt229.1 bt229.2.1 bt229.2.2).bind fun bt232 => ((laws_eqPuzzle.f k bt232.1 bt232.2.1 bt218.1 bt218.2.1).bind fun t238 => (if t238 = true then (laws_FnExactAddClue.j0 k bt218.2.2 bt232.2.2 (bt232.2.2 != bt218.2.2) a0_0 l0_1 a1_0 a1_1 a1_2 bt218.1 bt218.2.1 bt224.1 bt224.2 bt232.1 bt232.2.1) else (laws_FnExactAddClue.j0 k bt218.2.2 bt232.2.2 true a0_0 l0_1 a1_0 a1_1 a1_2 bt218.1 bt218.2.1 bt224.1 bt224.2 bt232.1 bt232.2.1)))))))) = some r := H
    have A10 := Aside0.mk A100
    clear A100; replace H := Option.bind_eq_some_iff.mp H
    obtain ⟨⟨t215, t216, t217⟩, A110, H⟩ := H
    replace H : ((spec_AddClue.f k t211 t212 t215 t216 t217).bind fun bt218 => ((laws_toPuzzle.f k a0_0 l0_1).bind fun bt224 => ((laws_toClue.f a1_0 a1_1 a1_2).bind fun bt229 => ((impl_AddClue.f k bt224.1 bt224.2 bt229.1 bt229.2.1 bt229.2.2).bind fun bt232 => ((laws_eqPuzzle.f k bt232.1 bt232.2.1 bt218.1 bt218.2.1).bind fun t238 => (if t238 = true then (laws_FnExactAddClue.j0 k bt218.2.2 bt232.2.2 (bt232.2.2 != bt218.2.2) a0_0 l0_1 a1_0 a1_1 a1_2 bt218.1 bt218.2.1 bt224.1 bt224.2 bt232.1 bt232.2.1) else (laws_FnExactAddClue.j0 k bt218.2.2 bt232.2.2 true a0_0 l0_1 a1_0 a1_1 a1_2 bt218.1 bt218.2.1 bt224.1 bt224.2 bt232.1 bt232.2.1))))))) = some r := H
    have A11 := Aside0.mk A110
    clear A110; replace H := Option.bind_eq_some_iff.mp H
    obtain ⟨⟨t218, t219, t222⟩, A120, H⟩ := H
    replace H : ((laws_toPuzzle.f k a0_0 l0_1).bind fun bt224 => ((laws_toClue.f a1_0 a1_1 a1_2).bind fun bt229 => ((impl_AddClue.f k bt224.1 bt224.2 bt229.1 bt229.2.1 bt229.2.2).bind fun bt232 => ((laws_eqPuzzle.f k bt232.1 bt232.2.1 t218 t219).bind fun t238 => (if t238 = true then (laws_FnExactAddClue.j0 k t222 bt232.2.2 (bt232.2.2 != t222) a0_0 l0_1 a1_0 a1_1 a1_2 t218 t219 bt224.1 bt224.2 bt232.1 bt232.2.1) else (laws_FnExactAddClue.j0 k t222 bt232.2.2 true a0_0 l0_1 a1_0 a1_1 a1_2 t218 t219 bt224.1 bt224.2 bt232.1 bt232.2.1)))))) = some r := H
    have A12 := Aside0.mk A120
    clear A120; replace H := Option.bind_eq_some_iff.mp H
    obtain ⟨⟨t224, t225⟩, A130, H⟩ := H
    replace H : ((laws_toClue.f a1_0 a1_1 a1_2).bind fun bt229 => ((impl_AddClue.f k t224 t225 bt229.1 bt229.2.1 bt229.2.2).bind fun bt232 => ((laws_eqPuzzle.f k bt232.1 bt232.2.1 t218 t219).bind fun t238 => (if t238 = true then (laws_FnExactAddClue.j0 k t222 bt232.2.2 (bt232.2.2 != t222) a0_0 l0_1 a1_0 a1_1 a1_2 t218 t219 t224 t225 bt232.1 bt232.2.1) else (laws_FnExactAddClue.j0 k t222 bt232.2.2 true a0_0 l0_1 a1_0 a1_1 a1_2 t218 t219 t224 t225 bt232.1 bt232.2.1))))) = some r := H
    have A13 := Aside0.mk A130
    clear A130; replace H := Option.bind_eq_some_iff.mp H
    obtain ⟨⟨t229, t230, t231⟩, A140, H⟩ := H
    replace H : ((impl_AddClue.f k t224 t225 t229 t230 t231).bind fun bt232 => ((laws_eqPuzzle.f k bt232.1 bt232.2.1 t218 t219).bind fun t238 => (if t238 = true then (laws_FnExactAddClue.j0 k t222 bt232.2.2 (bt232.2.2 != t222) a0_0 l0_1 a1_0 a1_1 a1_2 t218 t219 t224 t225 bt232.1 bt232.2.1) else (laws_FnExactAddClue.j0 k t222 bt232.2.2 true a0_0 l0_1 a1_0 a1_1 a1_2 t218 t219 t224 t225 bt232.1 bt232.2.1)))) = some r := H
    have A14 := Aside0.mk A140
    clear A140; replace H := Option.bind_eq_some_iff.mp H
    obtain ⟨⟨t232, t233, t236⟩, A150, H⟩ := H
    replace H : ((laws_eqPuzzle.f k t232 t233 t218 t219).bind fun t238 => (if t238 = true then (laws_FnExactAddClue.j0 k t222 t236 (t236 != t222) a0_0 l0_1 a1_0 a1_1 a1_2 t218 t219 t224 t225 t232 t233) else (laws_FnExactAddClue.j0 k t222 t236 true a0_0 l0_1 a1_0 a1_1 a1_2 t218 t219 t224 t225 t232 t233))) = some r := H
    have A15 := Aside0.mk A150
    clear A150
    have HC16 := Aside0.mk H
    clear H
    go_enter Try.func4, Try.ntmps4
    try go_wp2_with (first | ((with_reducible refine gate_dst (N := 2) rfl ?_); refine box_event ?hg (N := 2) ?hd (cs := #[.int .i64 a0_0, .slice A0_1 l0_1.length c0_1]) (t := 24) ?hr ?_; (case hd => rfl); (case hg => rfl); (case hr => first | (go_simp; done) | (go_simp; rfl)); intro gb208 hg w17 hbox hb; have n0_ := Aside0.mk (below_step zO3_18 hb); have n1_ := Aside0.mk (hbox); have n2_ := Aside0.mk ((by rw [hg]; exact (below_size zO3_18) : w.heap.size ≤ gb208)); have n3_ := Aside0.mk ((by rw [hg]; exact (below_size zO3_18) : w.heap.size ≤ gb208)); clear HB; have HB := n0_; have BK208 := n1_; have GW208 := n2_; have GE208 := n3_; clear n0_ n1_ n2_ n3_; clear hb hbox hg) | ((with_reducible refine gate_dst (N := 3) rfl ?_); refine box_event ?hg (N := 3) ?hd (cs := #[.int .i64 a1_0, .int .i64 a1_1, .int .i64 a1_2]) (t := 34) ?hr ?_; (case hd => rfl); (case hg => rfl); (case hr => first | (go_simp; done) | (go_simp; rfl)); intro gb209 hg w18 hbox hb; have n0_ := Aside0.mk (blk_below (g := gb208) (o := .cells #[.int .i64 a0_0, .slice A0_1 l0_1.length c0_1] 24 (0, 0)) zO3_19 hb); have n1_ := Aside0.mk (below_step zO3_10 hb); have n2_ := Aside0.mk (hbox); have n3_ := Aside0.mk ((by rw [hg]; exact (below_size zO3_10) : w.heap.size ≤ gb209)); have n4_ := Aside0.mk ((by rw [hg]; exact (below_size zO3_10) : w.heap.size ≤ gb209)); have n5_ := Aside0.mk ((by rw [hg]; exact Nat.ne_of_lt (blk_lt (g := gb208) (o := .cells #[.int .i64 a0_0, .slice A0_1 l0_1.length c0_1] 24 (0, 0)) zO3_19) : gb208 ≠ gb209)); have n6_ := Aside0.mk ((by rw [hg]; exact Nat.ne_of_gt (blk_lt (g := gb208) (o := .cells #[.int .i64 a0_0, .slice A0_1 l0_1.length c0_1] 24 (0, 0)) zO3_19) : gb209 ≠ gb208)); clear BK208; clear HB; have BK208 := n0_; have HB := n1_; have BK209 := n2_; have GW209 := n3_; have GE209 := n4_; have NB208_209 := n5_; have NB209_208 := n6_; clear n0_ n1_ n2_ n3_ n4_ n5_ n6_; clear hb hbox hg; have hnb19 := NB208_209.out; have hnc19 := NB209_208.out; have hcz20_0 : w18.cell? ⟨gb208, 0, none⟩ = some (.int .i64 a0_0) := (blk_cell BK208.out 0).trans rfl; have hcz20_1 : w18.cell? ⟨gb208, 1, none⟩ = some (.slice A0_1 l0_1.length c0_1) := (blk_cell BK208.out 1).trans rfl; have hfz20_0 := blk_frozen BK208.out 0; have hfz20_1 := blk_frozen BK208.out 1) | ((with_reducible refine gate_callee (f := 15) rfl ?_); refine goesL_ (some 18) rfl rfl Try.func15 (by kernel_rfl) rfl #[.agg #[.int .i64 a0_0, .slice A0_1 l0_1.length c0_1], .int .i64 1048576] rfl zO3_15 ?_; (with_reducible refine (laws_szPuzzle.calls a0_0 _ _ l0_1 1048576 t210 _ ?side1 ?side2 A3.out).mono ?_); (case side1 => repeat (first | exact (Kd.C_below HR0_1.out HB.out) | (with_reducible refine Kd.C_alloc ?_ _) | (with_reducible refine Kd.C_drewN ?_ _) | (with_reducible refine Kd.C_drew ?_))); (case side2 => exact HC0_1.out); rintro e w21 ⟨rfl, hb⟩; refine ⟨_, rfl, ?_⟩; have n0_ := Aside0.mk (blk_below (g := gb208) (o := .cells #[.int .i64 a0_0, .slice A0_1 l0_1.length c0_1] 24 (0, 0)) zO3_19 hb); have n1_ := Aside0.mk (blk_below (g := gb209) (o := .cells #[.int .i64 a1_0, .int .i64 a1_1, .int .i64 a1_2] 34 (0, 0)) zO3_20 hb); have n2_ := Aside0.mk (below_step zO3_4 hb); clear BK208; clear BK209; clear HB; have BK208 := n0_; have BK209 := n1_; have HB := n2_; clear n0_ n1_ n2_; (try clear hb); (try clear hb2); (try clear hk); (try clear hi)))
    have n0_ := Aside0.mk (blk_drew BK208.out)
    have n1_ := Aside0.mk (blk_drew BK209.out)
    have n2_ := Aside0.mk (below_drew1 HB.out)
    clear BK208; clear BK209; clear HB; have BK208 := n0_; have BK209 := n1_; have HB := n2_; clear n0_ n1_ n2_
    refine start_ (n := 11) (S := fun w' => w'.cell? ⟨gb208, 0, none⟩ = some (.int .i64 a0_0) ∧ w'.cell? ⟨gb208, 1, none⟩ = some (.slice A0_1 l0_1.length c0_1) ∧ w'.cell? ⟨gb209, 0, none⟩ = some (.int .i64 a1_0) ∧ w'.cell? ⟨gb209, 1, none⟩ = some (.int .i64 a1_1) ∧ w'.cell? ⟨gb209, 2, none⟩ = some (.int .i64 a1_2)) (ds := []) #[false, false, false, false, false, false, false, false, false, false, false] (by kernel_rfl) rfl rfl ⟨(blk_cell BK208.out 0).trans rfl, (blk_cell BK208.out 1).trans rfl, (blk_cell BK209.out 0).trans rfl, (blk_cell BK209.out 1).trans rfl, (blk_cell BK209.out 2).trans rfl⟩ (fun hHeld => ?_); refine with_tabW laws_FnExactAddClue.tab5 laws_FnExactAddClue.bits5 (fun HT_ HW_ => ?_)
    generalize w21.drew = w22 at BK208 BK209 HB hHeld ⊢
    refine take_ (i := 0) (N := some 22) (v := ?_) (a' := ?_) #[true, false, false, false, false, false, false, false, false, false, false] rfl rfl (take_ofW HT_.out HW_.out (by kernel_rfl)) (fun _ _ _ h => h) (Or.inl ⟨by rfl, ?_⟩) hHeld ?_ ?_
    rotate_left
    · rintro w' ⟨s0, s1, s2, s3, s4⟩
      go_simp
      with_reducible rfl
    rotate_left
    · simp only [Act.put, List.setIfInBounds_toArray, List.set_cons_zero, List.set_cons_succ, i64_w, i32_w]
      rfl
    refine take_ (i := 2) (N := some 24) (v := ?_) (a' := ?_) #[true, false, true, false, false, false, false, false, false, false, false] rfl rfl (take_ofW HT_.out HW_.out (by kernel_rfl)) (fun _ _ _ h => h) (Or.inl ⟨by rfl, ?_⟩) hHeld ?_ ?_
    rotate_left
    · rintro w' ⟨s0, s1, s2, s3, s4⟩
      go_simp
      with_reducible rfl
    rotate_left
    · simp only [Act.put, List.setIfInBounds_toArray, List.set_cons_zero, List.set_cons_succ, i64_w, i32_w]
      rfl
    refine join_ (σ := Value × Value × Nat) 2 #[true, true, true, true, true, true, true, true, true, false, false] (fun s_ => [(23, .agg #[.int .i64 t211, s_.1]), (25, .agg #[.int .i64 t215, .int .i64 t216, .int .i64 t217]), (26, .tuple #[.agg #[.int .i64 t218, s_.2.1], .bool t222]), (6, .pointer (some ⟨s_.2.2, 0, none⟩)), (21, .tuple #[.agg #[.int .i64 t218, s_.2.1], .bool t222]), (27, .agg #[.int .i64 t218, s_.2.1]), (28, .bool t222)]) (fun s_ w' => (w'.cell? ⟨gb208, 0, none⟩ = some (.int .i64 a0_0) ∧ w'.cell? ⟨gb208, 1, none⟩ = some (.slice A0_1 l0_1.length c0_1) ∧ w'.cell? ⟨gb209, 0, none⟩ = some (.int .i64 a1_0) ∧ w'.cell? ⟨gb209, 1, none⟩ = some (.int .i64 a1_1) ∧ w'.cell? ⟨gb209, 2, none⟩ = some (.int .i64 a1_2)) ∧ (Kd.R k37 37 w' w.heap.size (fun k_ => some k_ ≠ (s_.2.1 : Value).ownBlock) s_.1 t212) ∧ (Kd.R k37 37 w' w.heap.size (fun k_ => some k_ ≠ (s_.1 : Value).ownBlock) s_.2.1 t219) ∧ (w'.heap[gb208]? = some (.cells #[.int .i64 a0_0, .slice A0_1 l0_1.length c0_1] 24 (0, 0))) ∧ (w'.heap[gb209]? = some (.cells #[.int .i64 a1_0, .int .i64 a1_1, .int .i64 a1_2] 34 (0, 0))) ∧ (w'.heap[s_.2.2]? = some (.cells #[.int .i64 0, .slice none 0 0] 29 (0, 0))) ∧ (w.heap.size ≤ s_.2.2) ∧ (w.heap.size ≤ s_.2.2) ∧ (gb208 ≠ s_.2.2) ∧ (s_.2.2 ≠ gb208) ∧ (gb209 ≠ s_.2.2) ∧ (s_.2.2 ≠ gb209) ∧ (Below w.heap.size w w')) ?_ ?_
    rotate_left
    · intro hCont
      refine two_ (i := 1) (j := 8) (Ni := some 23) (Nj := some 6) #[true, true, true, false, false, false, false, false, false, false, false] #[true, false, true, false, false, false, false, false, true, false, false] rfl rfl rfl rfl (two_of HT_.out (by kernel_rfl)) (by decide) (by decide) (fun K hK => ?_) (fun K hK => ?_)
      · skip
        refine goes_ Try.func17 (by kernel_rfl) rfl #[.agg #[.int .i64 a0_0, .slice A0_1 l0_1.length c0_1]] (by rfl) rfl rfl zO3_15 ?_
        with_reducible refine (laws_toPuzzle.calls k a0_0 _ _ l0_1 t211 t212 _ ?side1 ?side2 A10.out).mono ?_
        (case side1 => repeat (first | exact (Kd.C_below HR0_1.out HB.out) | (with_reducible refine Kd.C_alloc ?_ _) | (with_reducible refine Kd.C_drewN ?_ _) | (with_reducible refine Kd.C_drew ?_)))
        (case side2 => exact HC0_1.out)
        rintro e w23 ⟨v213, rfl, ho0, hb⟩
        refine ⟨_, rfl, ?_⟩
        have n0_ := Aside0.mk (Kd.R_lower ho0 (below_size zO3_4))
        have n1_ := Aside0.mk (blk_below (g := gb208) (o := .cells #[.int .i64 a0_0, .slice A0_1 l0_1.length c0_1] 24 (0, 0)) zO3_19 hb)
        have n2_ := Aside0.mk (blk_below (g := gb209) (o := .cells #[.int .i64 a1_0, .int .i64 a1_1, .int .i64 a1_2] 34 (0, 0)) zO3_20 hb)
        have n3_ := Aside0.mk (below_step zO3_4 hb)
        clear BK208; clear BK209; clear HB; have HO214 := n0_; have BK208 := n1_; have BK209 := n2_; have HB := n3_; clear n0_ n1_ n2_ n3_
        (try clear hb)
        (try clear hb2)
        (try clear hk)
        (try clear hi)
        (try clear ho0)
        refine hK.out _ _ ⟨(blk_cell BK208.out 0).trans rfl, (blk_cell BK208.out 1).trans rfl, (blk_cell BK209.out 0).trans rfl, (blk_cell BK209.out 1).trans rfl, (blk_cell BK209.out 2).trans rfl⟩ (fun hHeld => ?_)
        clear hK K
        refine norm_ (a' := ?_) ?_ ?_
        rotate_left
        · show Act.put _ (some 23) _ = _
          simp only [Act.put, List.setIfInBounds_toArray, List.set_cons_zero, List.set_cons_succ, i64_w, i32_w]
          rfl
        refine two_ (i := 3) (j := 8) (Ni := some 25) (Nj := some 6) #[true, true, true, true, false, false, false, false, false, false, false] #[true, true, true, false, false, false, false, false, true, false, false] rfl rfl rfl rfl (two_of HT_.out (by kernel_rfl)) (by decide) (by decide) (fun K hK => ?_) (fun K hK => ?_)
        · skip
          refine goes_ Try.func21 (by kernel_rfl) rfl #[.agg #[.int .i64 a1_0, .int .i64 a1_1, .int .i64 a1_2]] (by rfl) rfl rfl zO3_15 ?_
          with_reducible refine (laws_toClue.calls a1_0 a1_1 a1_2 t215 t216 t217 _ A11.out).mono ?_
          rintro e w24 ⟨rfl, hb⟩
          refine ⟨_, rfl, ?_⟩
          have n0_ := Aside0.mk (Kd.R_below zO3_28 hb)
          have n1_ := Aside0.mk (blk_below (g := gb208) (o := .cells #[.int .i64 a0_0, .slice A0_1 l0_1.length c0_1] 24 (0, 0)) zO3_19 hb)
          have n2_ := Aside0.mk (blk_below (g := gb209) (o := .cells #[.int .i64 a1_0, .int .i64 a1_1, .int .i64 a1_2] 34 (0, 0)) zO3_20 hb)
          have n3_ := Aside0.mk (below_step zO3_4 hb)
          clear HO214; clear BK208; clear BK209; clear HB; have HO214 := n0_; have BK208 := n1_; have BK209 := n2_; have HB := n3_; clear n0_ n1_ n2_ n3_
          (try clear hb)
          (try clear hb2)
          (try clear hk)
          (try clear hi)
          obtain ⟨Ao25, co25, eo25⟩ := Kd.R_slice HO214.out
          (first | subst eo25 | (injection eo25 with f1_ f2_ f3_; have f4_ := f1_.symm; have f5_ := f3_.symm; clear f1_ f2_ f3_; subst f4_; subst f5_))
          refine hK.out _ _ ⟨(blk_cell BK208.out 0).trans rfl, (blk_cell BK208.out 1).trans rfl, (blk_cell BK209.out 0).trans rfl, (blk_cell BK209.out 1).trans rfl, (blk_cell BK209.out 2).trans rfl⟩ (fun hHeld => ?_)
          clear hK K
          refine norm_ (a' := ?_) ?_ ?_
          rotate_left
          · show Act.put _ (some 25) _ = _
            simp only [Act.put, List.setIfInBounds_toArray, List.set_cons_zero, List.set_cons_succ, i64_w, i32_w]
            rfl
          refine two_ (i := 4) (j := 8) (Ni := some 26) (Nj := some 6) #[true, true, true, true, true, false, false, false, false, false, false] #[true, true, true, true, false, false, false, false, true, false, false] rfl rfl rfl rfl (two_of HT_.out (by kernel_rfl)) (by decide) (by decide) (fun K hK => ?_) (fun K hK => ?_)
          · skip
            refine goes_ Try.func20 (by kernel_rfl) rfl #[.agg #[.int .i64 t211, .slice Ao25 t212.length co25], .agg #[.int .i64 t215, .int .i64 t216, .int .i64 t217]] (by rfl) rfl rfl zO3_15 ?_
            with_reducible refine (spec_AddClue.calls k t211 _ _ t212 t215 t216 t217 t218 t219 t222 _ ?side1 ?side2 A12.out).mono ?_
            (case side1 => repeat (first | exact (Kd.R_reads' HO214.out).2.2 | (with_reducible refine Kd.C_alloc ?_ _) | (with_reducible refine Kd.C_drewN ?_ _) | (with_reducible refine Kd.C_drew ?_)))
            (case side2 => exact (Kd.R_reads' HO214.out).2.1)
            rintro e w26 ⟨v220, rfl, ho0, hb⟩
            refine ⟨_, rfl, ?_⟩
            have n0_ := Aside0.mk (Kd.R_elder' zO3_28 (Kd.R_base ho0) hb)
            have n1_ := Aside0.mk (Kd.R_lower (Kd.R_new' ho0 (Kd.R_lt zO3_28)) (below_size zO3_4))
            have n2_ := Aside0.mk (blk_below (g := gb208) (o := .cells #[.int .i64 a0_0, .slice A0_1 l0_1.length c0_1] 24 (0, 0)) zO3_19 hb)
            have n3_ := Aside0.mk (blk_below (g := gb209) (o := .cells #[.int .i64 a1_0, .int .i64 a1_1, .int .i64 a1_2] 34 (0, 0)) zO3_20 hb)
            have n4_ := Aside0.mk (below_step zO3_4 hb)
            clear HO214; clear BK208; clear BK209; clear HB; have HO214 := n0_; have HO221 := n1_; have BK208 := n2_; have BK209 := n3_; have HB := n4_; clear n0_ n1_ n2_ n3_ n4_
            (try clear hb)
            (try clear hb2)
            (try clear hk)
            (try clear hi)
            (try clear ho0)
            refine hK.out _ _ ⟨(blk_cell BK208.out 0).trans rfl, (blk_cell BK208.out 1).trans rfl, (blk_cell BK209.out 0).trans rfl, (blk_cell BK209.out 1).trans rfl, (blk_cell BK209.out 2).trans rfl⟩ (fun hHeld => ?_)
            clear hK K
            refine norm_ (a' := ?_) ?_ ?_
            rotate_left
            · show Act.put _ (some 26) _ = _
              simp only [Act.put, List.setIfInBounds_toArray, List.set_cons_zero, List.set_cons_succ, i64_w, i32_w]
              rfl
            refine pure_ (i := 5) (N := some 21) (v := ?_) (a' := ?_) #[true, true, true, true, true, true, false, false, false, false, false] rfl rfl (any_of HT_.out (by kernel_rfl)) (fun _ _ _ h => h) (Or.inl ⟨by rfl, ?_⟩) ?_ ?_
            rotate_left
            · intro w'
              go_simp
              with_reducible rfl
            rotate_left
            · simp only [Act.put, List.setIfInBounds_toArray, List.set_cons_zero, List.set_cons_succ, i64_w, i32_w]
              rfl
            refine pure_ (i := 6) (N := some 27) (v := ?_) (a' := ?_) #[true, true, true, true, true, true, true, false, false, false, false] rfl rfl (any_of HT_.out (by kernel_rfl)) (fun _ _ _ h => h) (Or.inl ⟨by rfl, ?_⟩) ?_ ?_
            rotate_left
            · intro w'
              go_simp
              with_reducible rfl
            rotate_left
            · simp only [Act.put, List.setIfInBounds_toArray, List.set_cons_zero, List.set_cons_succ, i64_w, i32_w]
              rfl
            refine pure_ (i := 7) (N := some 28) (v := ?_) (a' := ?_) #[true, true, true, true, true, true, true, true, false, false, false] rfl rfl (any_of HT_.out (by kernel_rfl)) (fun _ _ _ h => h) (Or.inl ⟨by rfl, ?_⟩) ?_ ?_
            rotate_left
            · intro w'
              go_simp
              with_reducible rfl
            rotate_left
            · simp only [Act.put, List.setIfInBounds_toArray, List.set_cons_zero, List.set_cons_succ, i64_w, i32_w]
              rfl
            refine one_ (i := 8) (N := some 6) #[true, true, true, true, true, true, true, true, true, false, false] rfl rfl (one_of HT_.out (by kernel_rfl)) (by decide) (fun K hK => ?_)
            refine box_step ?hg (N := 6) ?hd (cs := #[.int .i64 0, .slice none 0 0]) (t := 29) ?hr ?_; (case hd => rfl); (case hg => rfl); (case hr => first | (go_simp; done) | (go_simp; rfl))
            intro gb223 hg w27 hbox hb
            have n0_ := Aside0.mk (Kd.R_below zO3_28 hb)
            have n1_ := Aside0.mk (Kd.R_below zO3_29 hb)
            have n2_ := Aside0.mk (blk_below (g := gb208) (o := .cells #[.int .i64 a0_0, .slice A0_1 l0_1.length c0_1] 24 (0, 0)) zO3_19 hb)
            have n3_ := Aside0.mk (blk_below (g := gb209) (o := .cells #[.int .i64 a1_0, .int .i64 a1_1, .int .i64 a1_2] 34 (0, 0)) zO3_20 hb)
            have n4_ := Aside0.mk (below_step zO3_4 hb)
            have n5_ := Aside0.mk (hbox)
            have n6_ := Aside0.mk ((by rw [hg]; exact (below_size zO3_4) : w.heap.size ≤ gb223))
            have n7_ := Aside0.mk ((by rw [hg]; exact (below_size zO3_4) : w.heap.size ≤ gb223))
            have n8_ := Aside0.mk ((by rw [hg]; exact Nat.ne_of_lt (blk_lt (g := gb208) (o := .cells #[.int .i64 a0_0, .slice A0_1 l0_1.length c0_1] 24 (0, 0)) zO3_19) : gb208 ≠ gb223))
            have n9_ := Aside0.mk ((by rw [hg]; exact Nat.ne_of_gt (blk_lt (g := gb208) (o := .cells #[.int .i64 a0_0, .slice A0_1 l0_1.length c0_1] 24 (0, 0)) zO3_19) : gb223 ≠ gb208))
            have n10_ := Aside0.mk ((by rw [hg]; exact Nat.ne_of_lt (blk_lt (g := gb209) (o := .cells #[.int .i64 a1_0, .int .i64 a1_1, .int .i64 a1_2] 34 (0, 0)) zO3_20) : gb209 ≠ gb223))
            have n11_ := Aside0.mk ((by rw [hg]; exact Nat.ne_of_gt (blk_lt (g := gb209) (o := .cells #[.int .i64 a1_0, .int .i64 a1_1, .int .i64 a1_2] 34 (0, 0)) zO3_20) : gb223 ≠ gb209))
            clear HO214; clear HO221; clear BK208; clear BK209; clear HB; have HO214 := n0_; have HO221 := n1_; have BK208 := n2_; have BK209 := n3_; have HB := n4_; have BK223 := n5_; have GW223 := n6_; have GE223 := n7_; have NB208_223 := n8_; have NB223_208 := n9_; have NB209_223 := n10_; have NB223_209 := n11_; clear n0_ n1_ n2_ n3_ n4_ n5_ n6_ n7_ n8_ n9_ n10_ n11_; clear hb hbox hg
            refine hK.out _ _ ⟨(blk_cell BK208.out 0).trans rfl, (blk_cell BK208.out 1).trans rfl, (blk_cell BK209.out 0).trans rfl, (blk_cell BK209.out 1).trans rfl, (blk_cell BK209.out 2).trans rfl⟩ (fun hHeld => ?_)
            clear hK K
            refine norm_ (a' := ?_) ?_ ?_
            rotate_left
            · show Act.put _ (some 6) _ = _
              simp only [Act.put, List.setIfInBounds_toArray, List.set_cons_zero, List.set_cons_succ, i64_w, i32_w]
              rfl
            exact norm_ zO3_33 (hCont (.slice Ao25 t212.length co25, v220, gb223) _ ⟨hHeld, zO3_16, zO3_17, zO3_19, zO3_20, zO3_21, GW223.out, GE223.out, NB208_223.out, NB223_208.out, NB209_223.out, NB223_209.out, zO3_3⟩)
          · skip
            refine box_step ?hg (N := 6) ?hd (cs := #[.int .i64 0, .slice none 0 0]) (t := 29) ?hr ?_; (case hd => rfl); (case hg => rfl); (case hr => first | (go_simp; done) | (go_simp; rfl))
            intro gb223 hg w25 hbox hb
            have n0_ := Aside0.mk (Kd.R_below zO3_28 hb)
            have n1_ := Aside0.mk (blk_below (g := gb208) (o := .cells #[.int .i64 a0_0, .slice A0_1 l0_1.length c0_1] 24 (0, 0)) zO3_19 hb)
            have n2_ := Aside0.mk (blk_below (g := gb209) (o := .cells #[.int .i64 a1_0, .int .i64 a1_1, .int .i64 a1_2] 34 (0, 0)) zO3_20 hb)
            have n3_ := Aside0.mk (below_step zO3_4 hb)
            have n4_ := Aside0.mk (hbox)
            have n5_ := Aside0.mk ((by rw [hg]; exact (below_size zO3_4) : w.heap.size ≤ gb223))
            have n6_ := Aside0.mk ((by rw [hg]; exact (below_size zO3_4) : w.heap.size ≤ gb223))
            have n7_ := Aside0.mk ((by rw [hg]; exact Nat.ne_of_lt (blk_lt (g := gb208) (o := .cells #[.int .i64 a0_0, .slice A0_1 l0_1.length c0_1] 24 (0, 0)) zO3_19) : gb208 ≠ gb223))
            have n8_ := Aside0.mk ((by rw [hg]; exact Nat.ne_of_gt (blk_lt (g := gb208) (o := .cells #[.int .i64 a0_0, .slice A0_1 l0_1.length c0_1] 24 (0, 0)) zO3_19) : gb223 ≠ gb208))
            have n9_ := Aside0.mk ((by rw [hg]; exact Nat.ne_of_lt (blk_lt (g := gb209) (o := .cells #[.int .i64 a1_0, .int .i64 a1_1, .int .i64 a1_2] 34 (0, 0)) zO3_20) : gb209 ≠ gb223))
            have n10_ := Aside0.mk ((by rw [hg]; exact Nat.ne_of_gt (blk_lt (g := gb209) (o := .cells #[.int .i64 a1_0, .int .i64 a1_1, .int .i64 a1_2] 34 (0, 0)) zO3_20) : gb223 ≠ gb209))
            clear HO214; clear BK208; clear BK209; clear HB; have HO214 := n0_; have BK208 := n1_; have BK209 := n2_; have HB := n3_; have BK223 := n4_; have GW223 := n5_; have GE223 := n6_; have NB208_223 := n7_; have NB223_208 := n8_; have NB209_223 := n9_; have NB223_209 := n10_; clear n0_ n1_ n2_ n3_ n4_ n5_ n6_ n7_ n8_ n9_ n10_; clear hb hbox hg
            obtain ⟨Ao26, co26, eo26⟩ := Kd.R_slice HO214.out
            (first | subst eo26 | (injection eo26 with f1_ f2_ f3_; have f4_ := f1_.symm; have f5_ := f3_.symm; clear f1_ f2_ f3_; subst f4_; subst f5_))
            refine hK.out _ _ ⟨(blk_cell BK208.out 0).trans rfl, (blk_cell BK208.out 1).trans rfl, (blk_cell BK209.out 0).trans rfl, (blk_cell BK209.out 1).trans rfl, (blk_cell BK209.out 2).trans rfl⟩ (fun hHeld => ?_)
            clear hK K
            refine norm_ (a' := ?_) ?_ ?_
            rotate_left
            · show Act.put _ (some 6) _ = _
              simp only [Act.put, List.setIfInBounds_toArray, List.set_cons_zero, List.set_cons_succ, i64_w, i32_w]
              rfl
            refine one_ (i := 4) (N := some 26) #[true, true, true, true, true, false, false, false, true, false, false] rfl rfl (one_of HT_.out (by kernel_rfl)) (by decide) (fun K hK => ?_)
            refine goes_ Try.func20 (by kernel_rfl) rfl #[.agg #[.int .i64 t211, .slice Ao26 t212.length co26], .agg #[.int .i64 t215, .int .i64 t216, .int .i64 t217]] (by rfl) rfl rfl zO3_15 ?_
            with_reducible refine (spec_AddClue.calls k t211 _ _ t212 t215 t216 t217 t218 t219 t222 _ ?side1 ?side2 A12.out).mono ?_
            (case side1 => repeat (first | exact (Kd.R_reads' HO214.out).2.2 | (with_reducible refine Kd.C_alloc ?_ _) | (with_reducible refine Kd.C_drewN ?_ _) | (with_reducible refine Kd.C_drew ?_)))
            (case side2 => exact (Kd.R_reads' HO214.out).2.1)
            rintro e w27 ⟨v220, rfl, ho0, hb⟩
            refine ⟨_, rfl, ?_⟩
            have n0_ := Aside0.mk (Kd.R_elder' zO3_28 (Kd.R_base ho0) hb)
            have n1_ := Aside0.mk (Kd.R_lower (Kd.R_new' ho0 (Kd.R_lt zO3_28)) (below_size zO3_3))
            have n2_ := Aside0.mk (blk_below (g := gb208) (o := .cells #[.int .i64 a0_0, .slice A0_1 l0_1.length c0_1] 24 (0, 0)) zO3_19 hb)
            have n3_ := Aside0.mk (blk_below (g := gb209) (o := .cells #[.int .i64 a1_0, .int .i64 a1_1, .int .i64 a1_2] 34 (0, 0)) zO3_20 hb)
            have n4_ := Aside0.mk (blk_below (g := gb223) (o := .cells #[.int .i64 0, .slice none 0 0] 29 (0, 0)) zO3_21 hb)
            have n5_ := Aside0.mk (below_step zO3_3 hb)
            clear HO214; clear BK208; clear BK209; clear BK223; clear HB; have HO214 := n0_; have HO221 := n1_; have BK208 := n2_; have BK209 := n3_; have BK223 := n4_; have HB := n5_; clear n0_ n1_ n2_ n3_ n4_ n5_
            (try clear hb)
            (try clear hb2)
            (try clear hk)
            (try clear hi)
            (try clear ho0)
            refine hK.out _ _ ⟨(blk_cell BK208.out 0).trans rfl, (blk_cell BK208.out 1).trans rfl, (blk_cell BK209.out 0).trans rfl, (blk_cell BK209.out 1).trans rfl, (blk_cell BK209.out 2).trans rfl⟩ (fun hHeld => ?_)
            clear hK K
            refine norm_ (a' := ?_) ?_ ?_
            rotate_left
            · show Act.put _ (some 26) _ = _
              simp only [Act.put, List.setIfInBounds_toArray, List.set_cons_zero, List.set_cons_succ, i64_w, i32_w]
              rfl
            refine pure_ (i := 5) (N := some 21) (v := ?_) (a' := ?_) #[true, true, true, true, true, true, false, false, true, false, false] rfl rfl (any_of HT_.out (by kernel_rfl)) (fun _ _ _ h => h) (Or.inl ⟨by rfl, ?_⟩) ?_ ?_
            rotate_left
            · intro w'
              go_simp
              with_reducible rfl
            rotate_left
            · simp only [Act.put, List.setIfInBounds_toArray, List.set_cons_zero, List.set_cons_succ, i64_w, i32_w]
              rfl
            refine pure_ (i := 6) (N := some 27) (v := ?_) (a' := ?_) #[true, true, true, true, true, true, true, false, true, false, false] rfl rfl (any_of HT_.out (by kernel_rfl)) (fun _ _ _ h => h) (Or.inl ⟨by rfl, ?_⟩) ?_ ?_
            rotate_left
            · intro w'
              go_simp
              with_reducible rfl
            rotate_left
            · simp only [Act.put, List.setIfInBounds_toArray, List.set_cons_zero, List.set_cons_succ, i64_w, i32_w]
              rfl
            refine pure_ (i := 7) (N := some 28) (v := ?_) (a' := ?_) #[true, true, true, true, true, true, true, true, true, false, false] rfl rfl (any_of HT_.out (by kernel_rfl)) (fun _ _ _ h => h) (Or.inl ⟨by rfl, ?_⟩) ?_ ?_
            rotate_left
            · intro w'
              go_simp
              with_reducible rfl
            rotate_left
            · simp only [Act.put, List.setIfInBounds_toArray, List.set_cons_zero, List.set_cons_succ, i64_w, i32_w]
              rfl
            exact norm_ zO3_33 (hCont (.slice Ao26 t212.length co26, v220, gb223) _ ⟨hHeld, zO3_16, zO3_17, zO3_19, zO3_20, zO3_21, GW223.out, GE223.out, NB208_223.out, NB223_208.out, NB209_223.out, NB223_209.out, zO3_3⟩)
        · skip
          refine box_step ?hg (N := 6) ?hd (cs := #[.int .i64 0, .slice none 0 0]) (t := 29) ?hr ?_; (case hd => rfl); (case hg => rfl); (case hr => first | (go_simp; done) | (go_simp; rfl))
          intro gb223 hg w24 hbox hb
          have n0_ := Aside0.mk (Kd.R_below zO3_28 hb)
          have n1_ := Aside0.mk (blk_below (g := gb208) (o := .cells #[.int .i64 a0_0, .slice A0_1 l0_1.length c0_1] 24 (0, 0)) zO3_19 hb)
          have n2_ := Aside0.mk (blk_below (g := gb209) (o := .cells #[.int .i64 a1_0, .int .i64 a1_1, .int .i64 a1_2] 34 (0, 0)) zO3_20 hb)
          have n3_ := Aside0.mk (below_step zO3_4 hb)
          have n4_ := Aside0.mk (hbox)
          have n5_ := Aside0.mk ((by rw [hg]; exact (below_size zO3_4) : w.heap.size ≤ gb223))
          have n6_ := Aside0.mk ((by rw [hg]; exact (below_size zO3_4) : w.heap.size ≤ gb223))
          have n7_ := Aside0.mk ((by rw [hg]; exact Nat.ne_of_lt (blk_lt (g := gb208) (o := .cells #[.int .i64 a0_0, .slice A0_1 l0_1.length c0_1] 24 (0, 0)) zO3_19) : gb208 ≠ gb223))
          have n8_ := Aside0.mk ((by rw [hg]; exact Nat.ne_of_gt (blk_lt (g := gb208) (o := .cells #[.int .i64 a0_0, .slice A0_1 l0_1.length c0_1] 24 (0, 0)) zO3_19) : gb223 ≠ gb208))
          have n9_ := Aside0.mk ((by rw [hg]; exact Nat.ne_of_lt (blk_lt (g := gb209) (o := .cells #[.int .i64 a1_0, .int .i64 a1_1, .int .i64 a1_2] 34 (0, 0)) zO3_20) : gb209 ≠ gb223))
          have n10_ := Aside0.mk ((by rw [hg]; exact Nat.ne_of_gt (blk_lt (g := gb209) (o := .cells #[.int .i64 a1_0, .int .i64 a1_1, .int .i64 a1_2] 34 (0, 0)) zO3_20) : gb223 ≠ gb209))
          clear HO214; clear BK208; clear BK209; clear HB; have HO214 := n0_; have BK208 := n1_; have BK209 := n2_; have HB := n3_; have BK223 := n4_; have GW223 := n5_; have GE223 := n6_; have NB208_223 := n7_; have NB223_208 := n8_; have NB209_223 := n9_; have NB223_209 := n10_; clear n0_ n1_ n2_ n3_ n4_ n5_ n6_ n7_ n8_ n9_ n10_; clear hb hbox hg
          refine hK.out _ _ ⟨(blk_cell BK208.out 0).trans rfl, (blk_cell BK208.out 1).trans rfl, (blk_cell BK209.out 0).trans rfl, (blk_cell BK209.out 1).trans rfl, (blk_cell BK209.out 2).trans rfl⟩ (fun hHeld => ?_)
          clear hK K
          refine norm_ (a' := ?_) ?_ ?_
          rotate_left
          · show Act.put _ (some 6) _ = _
            simp only [Act.put, List.setIfInBounds_toArray, List.set_cons_zero, List.set_cons_succ, i64_w, i32_w]
            rfl
          refine one_ (i := 3) (N := some 25) #[true, true, true, true, false, false, false, false, true, false, false] rfl rfl (one_of HT_.out (by kernel_rfl)) (by decide) (fun K hK => ?_)
          refine goes_ Try.func21 (by kernel_rfl) rfl #[.agg #[.int .i64 a1_0, .int .i64 a1_1, .int .i64 a1_2]] (by rfl) rfl rfl zO3_15 ?_
          with_reducible refine (laws_toClue.calls a1_0 a1_1 a1_2 t215 t216 t217 _ A11.out).mono ?_
          rintro e w25 ⟨rfl, hb⟩
          refine ⟨_, rfl, ?_⟩
          have n0_ := Aside0.mk (Kd.R_below zO3_28 hb)
          have n1_ := Aside0.mk (blk_below (g := gb208) (o := .cells #[.int .i64 a0_0, .slice A0_1 l0_1.length c0_1] 24 (0, 0)) zO3_19 hb)
          have n2_ := Aside0.mk (blk_below (g := gb209) (o := .cells #[.int .i64 a1_0, .int .i64 a1_1, .int .i64 a1_2] 34 (0, 0)) zO3_20 hb)
          have n3_ := Aside0.mk (blk_below (g := gb223) (o := .cells #[.int .i64 0, .slice none 0 0] 29 (0, 0)) zO3_21 hb)
          have n4_ := Aside0.mk (below_step zO3_3 hb)
          clear HO214; clear BK208; clear BK209; clear BK223; clear HB; have HO214 := n0_; have BK208 := n1_; have BK209 := n2_; have BK223 := n3_; have HB := n4_; clear n0_ n1_ n2_ n3_ n4_
          (try clear hb)
          (try clear hb2)
          (try clear hk)
          (try clear hi)
          obtain ⟨Ao26, co26, eo26⟩ := Kd.R_slice HO214.out
          (first | subst eo26 | (injection eo26 with f1_ f2_ f3_; have f4_ := f1_.symm; have f5_ := f3_.symm; clear f1_ f2_ f3_; subst f4_; subst f5_))
          refine hK.out _ _ ⟨(blk_cell BK208.out 0).trans rfl, (blk_cell BK208.out 1).trans rfl, (blk_cell BK209.out 0).trans rfl, (blk_cell BK209.out 1).trans rfl, (blk_cell BK209.out 2).trans rfl⟩ (fun hHeld => ?_)
          clear hK K
          refine norm_ (a' := ?_) ?_ ?_
          rotate_left
          · show Act.put _ (some 25) _ = _
            simp only [Act.put, List.setIfInBounds_toArray, List.set_cons_zero, List.set_cons_succ, i64_w, i32_w]
            rfl
          refine one_ (i := 4) (N := some 26) #[true, true, true, true, true, false, false, false, true, false, false] rfl rfl (one_of HT_.out (by kernel_rfl)) (by decide) (fun K hK => ?_)
          refine goes_ Try.func20 (by kernel_rfl) rfl #[.agg #[.int .i64 t211, .slice Ao26 t212.length co26], .agg #[.int .i64 t215, .int .i64 t216, .int .i64 t217]] (by rfl) rfl rfl zO3_15 ?_
          with_reducible refine (spec_AddClue.calls k t211 _ _ t212 t215 t216 t217 t218 t219 t222 _ ?side1 ?side2 A12.out).mono ?_
          (case side1 => repeat (first | exact (Kd.R_reads' HO214.out).2.2 | (with_reducible refine Kd.C_alloc ?_ _) | (with_reducible refine Kd.C_drewN ?_ _) | (with_reducible refine Kd.C_drew ?_)))
          (case side2 => exact (Kd.R_reads' HO214.out).2.1)
          rintro e w27 ⟨v220, rfl, ho0, hb⟩
          refine ⟨_, rfl, ?_⟩
          have n0_ := Aside0.mk (Kd.R_elder' zO3_28 (Kd.R_base ho0) hb)
          have n1_ := Aside0.mk (Kd.R_lower (Kd.R_new' ho0 (Kd.R_lt zO3_28)) (below_size zO3_3))
          have n2_ := Aside0.mk (blk_below (g := gb208) (o := .cells #[.int .i64 a0_0, .slice A0_1 l0_1.length c0_1] 24 (0, 0)) zO3_19 hb)
          have n3_ := Aside0.mk (blk_below (g := gb209) (o := .cells #[.int .i64 a1_0, .int .i64 a1_1, .int .i64 a1_2] 34 (0, 0)) zO3_20 hb)
          have n4_ := Aside0.mk (blk_below (g := gb223) (o := .cells #[.int .i64 0, .slice none 0 0] 29 (0, 0)) zO3_21 hb)
          have n5_ := Aside0.mk (below_step zO3_3 hb)
          clear HO214; clear BK208; clear BK209; clear BK223; clear HB; have HO214 := n0_; have HO221 := n1_; have BK208 := n2_; have BK209 := n3_; have BK223 := n4_; have HB := n5_; clear n0_ n1_ n2_ n3_ n4_ n5_
          (try clear hb)
          (try clear hb2)
          (try clear hk)
          (try clear hi)
          (try clear ho0)
          refine hK.out _ _ ⟨(blk_cell BK208.out 0).trans rfl, (blk_cell BK208.out 1).trans rfl, (blk_cell BK209.out 0).trans rfl, (blk_cell BK209.out 1).trans rfl, (blk_cell BK209.out 2).trans rfl⟩ (fun hHeld => ?_)
          clear hK K
          refine norm_ (a' := ?_) ?_ ?_
          rotate_left
          · show Act.put _ (some 26) _ = _
            simp only [Act.put, List.setIfInBounds_toArray, List.set_cons_zero, List.set_cons_succ, i64_w, i32_w]
            rfl
          refine pure_ (i := 5) (N := some 21) (v := ?_) (a' := ?_) #[true, true, true, true, true, true, false, false, true, false, false] rfl rfl (any_of HT_.out (by kernel_rfl)) (fun _ _ _ h => h) (Or.inl ⟨by rfl, ?_⟩) ?_ ?_
          rotate_left
          · intro w'
            go_simp
            with_reducible rfl
          rotate_left
          · simp only [Act.put, List.setIfInBounds_toArray, List.set_cons_zero, List.set_cons_succ, i64_w, i32_w]
            rfl
          refine pure_ (i := 6) (N := some 27) (v := ?_) (a' := ?_) #[true, true, true, true, true, true, true, false, true, false, false] rfl rfl (any_of HT_.out (by kernel_rfl)) (fun _ _ _ h => h) (Or.inl ⟨by rfl, ?_⟩) ?_ ?_
          rotate_left
          · intro w'
            go_simp
            with_reducible rfl
          rotate_left
          · simp only [Act.put, List.setIfInBounds_toArray, List.set_cons_zero, List.set_cons_succ, i64_w, i32_w]
            rfl
          refine pure_ (i := 7) (N := some 28) (v := ?_) (a' := ?_) #[true, true, true, true, true, true, true, true, true, false, false] rfl rfl (any_of HT_.out (by kernel_rfl)) (fun _ _ _ h => h) (Or.inl ⟨by rfl, ?_⟩) ?_ ?_
          rotate_left
          · intro w'
            go_simp
            with_reducible rfl
          rotate_left
          · simp only [Act.put, List.setIfInBounds_toArray, List.set_cons_zero, List.set_cons_succ, i64_w, i32_w]
            rfl
          exact norm_ zO3_33 (hCont (.slice Ao26 t212.length co26, v220, gb223) _ ⟨hHeld, zO3_16, zO3_17, zO3_19, zO3_20, zO3_21, GW223.out, GE223.out, NB208_223.out, NB223_208.out, NB209_223.out, NB223_209.out, zO3_3⟩)
      · skip
        refine box_step ?hg (N := 6) ?hd (cs := #[.int .i64 0, .slice none 0 0]) (t := 29) ?hr ?_; (case hd => rfl); (case hg => rfl); (case hr => first | (go_simp; done) | (go_simp; rfl))
        intro gb223 hg w23 hbox hb
        have n0_ := Aside0.mk (blk_below (g := gb208) (o := .cells #[.int .i64 a0_0, .slice A0_1 l0_1.length c0_1] 24 (0, 0)) zO3_19 hb)
        have n1_ := Aside0.mk (blk_below (g := gb209) (o := .cells #[.int .i64 a1_0, .int .i64 a1_1, .int .i64 a1_2] 34 (0, 0)) zO3_20 hb)
        have n2_ := Aside0.mk (below_step zO3_4 hb)
        have n3_ := Aside0.mk (hbox)
        have n4_ := Aside0.mk ((by rw [hg]; exact (below_size zO3_4) : w.heap.size ≤ gb223))
        have n5_ := Aside0.mk ((by rw [hg]; exact (below_size zO3_4) : w.heap.size ≤ gb223))
        have n6_ := Aside0.mk ((by rw [hg]; exact Nat.ne_of_lt (blk_lt (g := gb208) (o := .cells #[.int .i64 a0_0, .slice A0_1 l0_1.length c0_1] 24 (0, 0)) zO3_19) : gb208 ≠ gb223))
        have n7_ := Aside0.mk ((by rw [hg]; exact Nat.ne_of_gt (blk_lt (g := gb208) (o := .cells #[.int .i64 a0_0, .slice A0_1 l0_1.length c0_1] 24 (0, 0)) zO3_19) : gb223 ≠ gb208))
        have n8_ := Aside0.mk ((by rw [hg]; exact Nat.ne_of_lt (blk_lt (g := gb209) (o := .cells #[.int .i64 a1_0, .int .i64 a1_1, .int .i64 a1_2] 34 (0, 0)) zO3_20) : gb209 ≠ gb223))
        have n9_ := Aside0.mk ((by rw [hg]; exact Nat.ne_of_gt (blk_lt (g := gb209) (o := .cells #[.int .i64 a1_0, .int .i64 a1_1, .int .i64 a1_2] 34 (0, 0)) zO3_20) : gb223 ≠ gb209))
        clear BK208; clear BK209; clear HB; have BK208 := n0_; have BK209 := n1_; have HB := n2_; have BK223 := n3_; have GW223 := n4_; have GE223 := n5_; have NB208_223 := n6_; have NB223_208 := n7_; have NB209_223 := n8_; have NB223_209 := n9_; clear n0_ n1_ n2_ n3_ n4_ n5_ n6_ n7_ n8_ n9_; clear hb hbox hg
        refine hK.out _ _ ⟨(blk_cell BK208.out 0).trans rfl, (blk_cell BK208.out 1).trans rfl, (blk_cell BK209.out 0).trans rfl, (blk_cell BK209.out 1).trans rfl, (blk_cell BK209.out 2).trans rfl⟩ (fun hHeld => ?_)
        clear hK K
        refine norm_ (a' := ?_) ?_ ?_
        rotate_left
        · show Act.put _ (some 6) _ = _
          simp only [Act.put, List.setIfInBounds_toArray, List.set_cons_zero, List.set_cons_succ, i64_w, i32_w]
          rfl
        refine one_ (i := 1) (N := some 23) #[true, true, true, false, false, false, false, false, true, false, false] rfl rfl (one_of HT_.out (by kernel_rfl)) (by decide) (fun K hK => ?_)
        refine goes_ Try.func17 (by kernel_rfl) rfl #[.agg #[.int .i64 a0_0, .slice A0_1 l0_1.length c0_1]] (by rfl) rfl rfl zO3_15 ?_
        with_reducible refine (laws_toPuzzle.calls k a0_0 _ _ l0_1 t211 t212 _ ?side1 ?side2 A10.out).mono ?_
        (case side1 => repeat (first | exact (Kd.C_below HR0_1.out HB.out) | (with_reducible refine Kd.C_alloc ?_ _) | (with_reducible refine Kd.C_drewN ?_ _) | (with_reducible refine Kd.C_drew ?_)))
        (case side2 => exact HC0_1.out)
        rintro e w24 ⟨v213, rfl, ho0, hb⟩
        refine ⟨_, rfl, ?_⟩
        have n0_ := Aside0.mk (Kd.R_lower ho0 (below_size zO3_3))
        have n1_ := Aside0.mk (blk_below (g := gb208) (o := .cells #[.int .i64 a0_0, .slice A0_1 l0_1.length c0_1] 24 (0, 0)) zO3_19 hb)
        have n2_ := Aside0.mk (blk_below (g := gb209) (o := .cells #[.int .i64 a1_0, .int .i64 a1_1, .int .i64 a1_2] 34 (0, 0)) zO3_20 hb)
        have n3_ := Aside0.mk (blk_below (g := gb223) (o := .cells #[.int .i64 0, .slice none 0 0] 29 (0, 0)) zO3_21 hb)
        have n4_ := Aside0.mk (below_step zO3_3 hb)
        clear BK208; clear BK209; clear BK223; clear HB; have HO214 := n0_; have BK208 := n1_; have BK209 := n2_; have BK223 := n3_; have HB := n4_; clear n0_ n1_ n2_ n3_ n4_
        (try clear hb)
        (try clear hb2)
        (try clear hk)
        (try clear hi)
        (try clear ho0)
        refine hK.out _ _ ⟨(blk_cell BK208.out 0).trans rfl, (blk_cell BK208.out 1).trans rfl, (blk_cell BK209.out 0).trans rfl, (blk_cell BK209.out 1).trans rfl, (blk_cell BK209.out 2).trans rfl⟩ (fun hHeld => ?_)
        clear hK K
        refine norm_ (a' := ?_) ?_ ?_
        rotate_left
        · show Act.put _ (some 23) _ = _
          simp only [Act.put, List.setIfInBounds_toArray, List.set_cons_zero, List.set_cons_succ, i64_w, i32_w]
          rfl
        refine one_ (i := 3) (N := some 25) #[true, true, true, true, false, false, false, false, true, false, false] rfl rfl (one_of HT_.out (by kernel_rfl)) (by decide) (fun K hK => ?_)
        refine goes_ Try.func21 (by kernel_rfl) rfl #[.agg #[.int .i64 a1_0, .int .i64 a1_1, .int .i64 a1_2]] (by rfl) rfl rfl zO3_15 ?_
        with_reducible refine (laws_toClue.calls a1_0 a1_1 a1_2 t215 t216 t217 _ A11.out).mono ?_
        rintro e w25 ⟨rfl, hb⟩
        refine ⟨_, rfl, ?_⟩
        have n0_ := Aside0.mk (Kd.R_below zO3_28 hb)
        have n1_ := Aside0.mk (blk_below (g := gb208) (o := .cells #[.int .i64 a0_0, .slice A0_1 l0_1.length c0_1] 24 (0, 0)) zO3_19 hb)
        have n2_ := Aside0.mk (blk_below (g := gb209) (o := .cells #[.int .i64 a1_0, .int .i64 a1_1, .int .i64 a1_2] 34 (0, 0)) zO3_20 hb)
        have n3_ := Aside0.mk (blk_below (g := gb223) (o := .cells #[.int .i64 0, .slice none 0 0] 29 (0, 0)) zO3_21 hb)
        have n4_ := Aside0.mk (below_step zO3_3 hb)
        clear HO214; clear BK208; clear BK209; clear BK223; clear HB; have HO214 := n0_; have BK208 := n1_; have BK209 := n2_; have BK223 := n3_; have HB := n4_; clear n0_ n1_ n2_ n3_ n4_
        (try clear hb)
        (try clear hb2)
        (try clear hk)
        (try clear hi)
        obtain ⟨Ao26, co26, eo26⟩ := Kd.R_slice HO214.out
        (first | subst eo26 | (injection eo26 with f1_ f2_ f3_; have f4_ := f1_.symm; have f5_ := f3_.symm; clear f1_ f2_ f3_; subst f4_; subst f5_))
        refine hK.out _ _ ⟨(blk_cell BK208.out 0).trans rfl, (blk_cell BK208.out 1).trans rfl, (blk_cell BK209.out 0).trans rfl, (blk_cell BK209.out 1).trans rfl, (blk_cell BK209.out 2).trans rfl⟩ (fun hHeld => ?_)
        clear hK K
        refine norm_ (a' := ?_) ?_ ?_
        rotate_left
        · show Act.put _ (some 25) _ = _
          simp only [Act.put, List.setIfInBounds_toArray, List.set_cons_zero, List.set_cons_succ, i64_w, i32_w]
          rfl
        refine one_ (i := 4) (N := some 26) #[true, true, true, true, true, false, false, false, true, false, false] rfl rfl (one_of HT_.out (by kernel_rfl)) (by decide) (fun K hK => ?_)
        refine goes_ Try.func20 (by kernel_rfl) rfl #[.agg #[.int .i64 t211, .slice Ao26 t212.length co26], .agg #[.int .i64 t215, .int .i64 t216, .int .i64 t217]] (by rfl) rfl rfl zO3_15 ?_
        with_reducible refine (spec_AddClue.calls k t211 _ _ t212 t215 t216 t217 t218 t219 t222 _ ?side1 ?side2 A12.out).mono ?_
        (case side1 => repeat (first | exact (Kd.R_reads' HO214.out).2.2 | (with_reducible refine Kd.C_alloc ?_ _) | (with_reducible refine Kd.C_drewN ?_ _) | (with_reducible refine Kd.C_drew ?_)))
        (case side2 => exact (Kd.R_reads' HO214.out).2.1)
        rintro e w27 ⟨v220, rfl, ho0, hb⟩
        refine ⟨_, rfl, ?_⟩
        have n0_ := Aside0.mk (Kd.R_elder' zO3_28 (Kd.R_base ho0) hb)
        have n1_ := Aside0.mk (Kd.R_lower (Kd.R_new' ho0 (Kd.R_lt zO3_28)) (below_size zO3_3))
        have n2_ := Aside0.mk (blk_below (g := gb208) (o := .cells #[.int .i64 a0_0, .slice A0_1 l0_1.length c0_1] 24 (0, 0)) zO3_19 hb)
        have n3_ := Aside0.mk (blk_below (g := gb209) (o := .cells #[.int .i64 a1_0, .int .i64 a1_1, .int .i64 a1_2] 34 (0, 0)) zO3_20 hb)
        have n4_ := Aside0.mk (blk_below (g := gb223) (o := .cells #[.int .i64 0, .slice none 0 0] 29 (0, 0)) zO3_21 hb)
        have n5_ := Aside0.mk (below_step zO3_3 hb)
        clear HO214; clear BK208; clear BK209; clear BK223; clear HB; have HO214 := n0_; have HO221 := n1_; have BK208 := n2_; have BK209 := n3_; have BK223 := n4_; have HB := n5_; clear n0_ n1_ n2_ n3_ n4_ n5_
        (try clear hb)
        (try clear hb2)
        (try clear hk)
        (try clear hi)
        (try clear ho0)
        refine hK.out _ _ ⟨(blk_cell BK208.out 0).trans rfl, (blk_cell BK208.out 1).trans rfl, (blk_cell BK209.out 0).trans rfl, (blk_cell BK209.out 1).trans rfl, (blk_cell BK209.out 2).trans rfl⟩ (fun hHeld => ?_)
        clear hK K
        refine norm_ (a' := ?_) ?_ ?_
        rotate_left
        · show Act.put _ (some 26) _ = _
          simp only [Act.put, List.setIfInBounds_toArray, List.set_cons_zero, List.set_cons_succ, i64_w, i32_w]
          rfl
        refine pure_ (i := 5) (N := some 21) (v := ?_) (a' := ?_) #[true, true, true, true, true, true, false, false, true, false, false] rfl rfl (any_of HT_.out (by kernel_rfl)) (fun _ _ _ h => h) (Or.inl ⟨by rfl, ?_⟩) ?_ ?_
        rotate_left
        · intro w'
          go_simp
          with_reducible rfl
        rotate_left
        · simp only [Act.put, List.setIfInBounds_toArray, List.set_cons_zero, List.set_cons_succ, i64_w, i32_w]
          rfl
        refine pure_ (i := 6) (N := some 27) (v := ?_) (a' := ?_) #[true, true, true, true, true, true, true, false, true, false, false] rfl rfl (any_of HT_.out (by kernel_rfl)) (fun _ _ _ h => h) (Or.inl ⟨by rfl, ?_⟩) ?_ ?_
        rotate_left
        · intro w'
          go_simp
          with_reducible rfl
        rotate_left
        · simp only [Act.put, List.setIfInBounds_toArray, List.set_cons_zero, List.set_cons_succ, i64_w, i32_w]
          rfl
        refine pure_ (i := 7) (N := some 28) (v := ?_) (a' := ?_) #[true, true, true, true, true, true, true, true, true, false, false] rfl rfl (any_of HT_.out (by kernel_rfl)) (fun _ _ _ h => h) (Or.inl ⟨by rfl, ?_⟩) ?_ ?_
        rotate_left
        · intro w'
          go_simp
          with_reducible rfl
        rotate_left
        · simp only [Act.put, List.setIfInBounds_toArray, List.set_cons_zero, List.set_cons_succ, i64_w, i32_w]
          rfl
        exact norm_ zO3_33 (hCont (.slice Ao26 t212.length co26, v220, gb223) _ ⟨hHeld, zO3_16, zO3_17, zO3_19, zO3_20, zO3_21, GW223.out, GE223.out, NB208_223.out, NB223_208.out, NB209_223.out, NB223_209.out, zO3_3⟩)
    rintro ⟨v213, v220, gb223⟩ w28 ⟨hS_, h0_, h1_, h2_, h3_, h4_, h5_, h6_, h7_, h8_, h9_, h10_, h11_⟩
    have n0_ : Aside0 (Kd.R k37 37 w28 w.heap.size (fun k_ => some k_ ≠ (v220 : Value).ownBlock) v213 t212) := ⟨h0_⟩
    have n1_ : Aside0 (Kd.R k37 37 w28 w.heap.size (fun k_ => some k_ ≠ (v213 : Value).ownBlock) v220 t219) := ⟨h1_⟩
    have n2_ : Aside0 (w28.heap[gb208]? = some (.cells #[.int .i64 a0_0, .slice A0_1 l0_1.length c0_1] 24 (0, 0))) := ⟨h2_⟩
    have n3_ : Aside0 (w28.heap[gb209]? = some (.cells #[.int .i64 a1_0, .int .i64 a1_1, .int .i64 a1_2] 34 (0, 0))) := ⟨h3_⟩
    have n4_ : Aside0 (w28.heap[gb223]? = some (.cells #[.int .i64 0, .slice none 0 0] 29 (0, 0))) := ⟨h4_⟩
    have n5_ : Aside0 (w.heap.size ≤ gb223) := ⟨h5_⟩
    have n6_ : Aside0 (w.heap.size ≤ gb223) := ⟨h6_⟩
    have n7_ : Aside0 (gb208 ≠ gb223) := ⟨h7_⟩
    have n8_ : Aside0 (gb223 ≠ gb208) := ⟨h8_⟩
    have n9_ : Aside0 (gb209 ≠ gb223) := ⟨h9_⟩
    have n10_ : Aside0 (gb223 ≠ gb209) := ⟨h10_⟩
    have n11_ : Aside0 (Below w.heap.size w w28) := ⟨h11_⟩
    clear BK208; clear BK209; clear HB; clear h0_ h1_ h2_ h3_ h4_ h5_ h6_ h7_ h8_ h9_ h10_ h11_; have HO214 := n0_; have HO221 := n1_; have BK208 := n2_; have BK209 := n3_; have BK223 := n4_; have GW223 := n5_; have GE223 := n6_; have NB208_223 := n7_; have NB223_208 := n8_; have NB209_223 := n9_; have NB223_209 := n10_; have HB := n11_; clear n0_ n1_ n2_ n3_ n4_ n5_ n6_ n7_ n8_ n9_ n10_ n11_
    have hHeld : w28.cell? ⟨gb208, 0, none⟩ = some (.int .i64 a0_0) ∧ w28.cell? ⟨gb208, 1, none⟩ = some (.slice A0_1 l0_1.length c0_1) ∧ w28.cell? ⟨gb209, 0, none⟩ = some (.int .i64 a1_0) ∧ w28.cell? ⟨gb209, 1, none⟩ = some (.int .i64 a1_1) ∧ w28.cell? ⟨gb209, 2, none⟩ = some (.int .i64 a1_2) := hS_
    obtain ⟨Ao30, co30, eo30⟩ := Kd.R_slice HO221.out
    (first | subst eo30 | (injection eo30 with f1_ f2_ f3_; have f4_ := f1_.symm; have f5_ := f3_.symm; clear f1_ f2_ f3_; subst f4_; subst f5_))
    refine norm_ (a' := ?_) ?_ ?_
    rotate_left
    · simp only [putAll, Act.put, List.setIfInBounds_toArray, List.set_cons_zero, List.set_cons_succ]
      rfl
    refine one_ (i := 9) (N := none) #[true, true, true, true, true, true, true, true, true, true, false] rfl rfl (one_of HT_.out (by kernel_rfl)) (by decide) (fun K hK => ?_)
    have hs29 : w28.cell? ⟨gb223, 0, none⟩ = some (.int .i64 0) := (blk_cell BK223.out 0).trans rfl
    have hfs29 := blk_frozen BK223.out 0
    have hns29_0 := NB208_223.out; have hns29_1 := NB209_223.out; have hms29_0 := NB223_208.out; have hms29_1 := NB223_209.out
    have hs31 : w28.cell? ⟨gb223, 1, none⟩ = some (.slice none 0 0) := (blk_cell BK223.out 1).trans rfl
    have hfs31 := blk_frozen BK223.out 1
    have hns31_0 := NB208_223.out; have hns31_1 := NB209_223.out; have hms31_0 := NB223_208.out; have hms31_1 := NB223_209.out
    refine skip_ (w1 := ?_) (by rfl) rfl ?_ ?_
    rotate_left
    · go_simp
      rfl
    refine hK.out _ _ ⟨((cell_far (p := ⟨gb223, _, none⟩) NB208_223.out _).trans (((cell_far (p := ⟨gb223, _, none⟩) NB208_223.out _).trans (hHeld.1)))), ((cell_far (p := ⟨gb223, _, none⟩) NB208_223.out _).trans (((cell_far (p := ⟨gb223, _, none⟩) NB208_223.out _).trans (hHeld.2.1)))), ((cell_far (p := ⟨gb223, _, none⟩) NB209_223.out _).trans (((cell_far (p := ⟨gb223, _, none⟩) NB209_223.out _).trans (hHeld.2.2.1)))), ((cell_far (p := ⟨gb223, _, none⟩) NB209_223.out _).trans (((cell_far (p := ⟨gb223, _, none⟩) NB209_223.out _).trans (hHeld.2.2.2.1)))), ((cell_far (p := ⟨gb223, _, none⟩) NB209_223.out _).trans (((cell_far (p := ⟨gb223, _, none⟩) NB209_223.out _).trans (hHeld.2.2.2.2))))⟩ (fun hHeld => ?_)
    clear hK K
    refine pure_ (i := 10) (N := some 7) (v := ?_) (a' := ?_) #[true, true, true, true, true, true, true, true, true, true, true] rfl rfl (any_of HT_.out (by kernel_rfl)) (fun _ _ _ h => h) (Or.inl ⟨by rfl, ?_⟩) ?_ ?_
    rotate_left
    · intro w'
      go_simp
      with_reducible rfl
    rotate_left
    · simp only [Act.put, List.setIfInBounds_toArray, List.set_cons_zero, List.set_cons_succ, i64_w, i32_w]
      rfl
    refine done_ (done_of HT_.out (by kernel_rfl)) ?_
    have hnb32 := NB208_223.out; have hnc32 := NB223_208.out
    have hcz33_0 : w28.cell? ⟨gb208, 0, none⟩ = some (.int .i64 a0_0) := (blk_cell BK208.out 0).trans rfl
    have hcz33_1 : w28.cell? ⟨gb208, 1, none⟩ = some (.slice A0_1 l0_1.length c0_1) := (blk_cell BK208.out 1).trans rfl
    have hfz33_0 := blk_frozen BK208.out 0
    have hfz33_1 := blk_frozen BK208.out 1
    try go_wp2_with (first | ((with_reducible refine gate_callee (f := 17) rfl ?_); refine goesL_ (some 30) rfl rfl Try.func17 (by kernel_rfl) rfl #[.agg #[.int .i64 a0_0, .slice A0_1 l0_1.length c0_1]] rfl zO3_15 ?_; (with_reducible refine (laws_toPuzzle.calls k a0_0 _ _ l0_1 t224 t225 _ ?side1 ?side2 A13.out).mono ?_); (case side1 => exact Kd.C_below HR0_1.out zO3_3); (case side2 => exact HC0_1.out); rintro e w34 ⟨v226, rfl, ho0, hb⟩; refine ⟨_, rfl, ?_⟩; have n0_ := Aside0.mk (Kd.R_elder' (by (with_reducible repeat (first | apply Kd.R_alloc | apply Kd.R_drewN | apply Kd.R_drew)); exact (Kd.R_mono (Kd.R_far (p := ⟨gb223, 1, none⟩) (Kd.R_far (p := ⟨gb223, 0, none⟩) (Kd.R_types HO214.out BK223.out (by decide)) (fun _ hk => hk.2) (.int .i64 t218)) (fun _ hk => hk.2) (.slice Ao30 t219.length co30)) (fun _ h_ => h_.1))) (Kd.R_base ho0) hb); have n1_ := Aside0.mk (Kd.R_elder' (by (with_reducible repeat (first | apply Kd.R_alloc | apply Kd.R_drewN | apply Kd.R_drew)); exact (Kd.R_mono (Kd.R_far (p := ⟨gb223, 1, none⟩) (Kd.R_far (p := ⟨gb223, 0, none⟩) (Kd.R_types HO221.out BK223.out (by decide)) (fun _ hk => hk.2) (.int .i64 t218)) (fun _ hk => hk.2) (.slice Ao30 t219.length co30)) (fun _ h_ => h_.1))) (Kd.R_base ho0) hb); have n2_ := Aside0.mk (Kd.R_lower (Kd.R_new' (Kd.R_new' ho0 (Kd.R_lt (by (with_reducible repeat (first | apply Kd.R_alloc | apply Kd.R_drewN | apply Kd.R_drew)); exact (Kd.R_mono (Kd.R_far (p := ⟨gb223, 1, none⟩) (Kd.R_far (p := ⟨gb223, 0, none⟩) (Kd.R_types HO214.out BK223.out (by decide)) (fun _ hk => hk.2) (.int .i64 t218)) (fun _ hk => hk.2) (.slice Ao30 t219.length co30)) (fun _ h_ => h_.1))))) (Kd.R_lt (by (with_reducible repeat (first | apply Kd.R_alloc | apply Kd.R_drewN | apply Kd.R_drew)); exact (Kd.R_mono (Kd.R_far (p := ⟨gb223, 1, none⟩) (Kd.R_far (p := ⟨gb223, 0, none⟩) (Kd.R_types HO221.out BK223.out (by decide)) (fun _ hk => hk.2) (.int .i64 t218)) (fun _ hk => hk.2) (.slice Ao30 t219.length co30)) (fun _ h_ => h_.1))))) (below_size zO3_3)); have n3_ := Aside0.mk (blk_below (g := gb208) (o := .cells #[.int .i64 a0_0, .slice A0_1 l0_1.length c0_1] 24 (0, 0)) (by (with_reducible repeat (first | refine blk_drewN ?_ _ | refine blk_drew ?_ | refine blk_alloc ?_ _)); refine blk_far ?_ NB208_223.out _; (with_reducible repeat (first | refine blk_drewN ?_ _ | refine blk_drew ?_ | refine blk_alloc ?_ _)); refine blk_far ?_ NB208_223.out _; (with_reducible repeat (first | refine blk_drewN ?_ _ | refine blk_drew ?_ | refine blk_alloc ?_ _)); exact BK208.out) hb); have n4_ := Aside0.mk (blk_below (g := gb209) (o := .cells #[.int .i64 a1_0, .int .i64 a1_1, .int .i64 a1_2] 34 (0, 0)) (by (with_reducible repeat (first | refine blk_drewN ?_ _ | refine blk_drew ?_ | refine blk_alloc ?_ _)); refine blk_far ?_ NB209_223.out _; (with_reducible repeat (first | refine blk_drewN ?_ _ | refine blk_drew ?_ | refine blk_alloc ?_ _)); refine blk_far ?_ NB209_223.out _; (with_reducible repeat (first | refine blk_drewN ?_ _ | refine blk_drew ?_ | refine blk_alloc ?_ _)); exact BK209.out) hb); have n5_ := Aside0.mk (blk_below (g := gb223) (o := .cells #[.int .i64 t218, .slice Ao30 t219.length co30] 29 (0, 0)) (by (with_reducible repeat (first | refine blk_drewN ?_ _ | refine blk_drew ?_ | refine blk_alloc ?_ _)); refine blk_put (cs := #[.int .i64 t218, .slice none 0 0]) ?_ 1 _ rfl; (with_reducible repeat (first | refine blk_drewN ?_ _ | refine blk_drew ?_ | refine blk_alloc ?_ _)); refine blk_put (cs := #[.int .i64 0, .slice none 0 0]) ?_ 0 _ rfl; (with_reducible repeat (first | refine blk_drewN ?_ _ | refine blk_drew ?_ | refine blk_alloc ?_ _)); exact BK223.out) hb); have n6_ := Aside0.mk (below_step zO3_3 hb); clear HO214; clear HO221; clear BK208; clear BK209; clear BK223; clear HB; have HO214 := n0_; have HO221 := n1_; have HO227 := n2_; have BK208 := n3_; have BK209 := n4_; have BK223 := n5_; have HB := n6_; clear n0_ n1_ n2_ n3_ n4_ n5_ n6_; (try clear hb); (try clear hb2); (try clear hk); (try clear hi); (try clear ho0)) | ((with_reducible refine gate_dst (N := 8) rfl ?_); refine box_event ?hg (N := 8) ?hd (cs := #[.int .i64 0, .slice none 0 0]) (t := 29) ?hr ?_; (case hd => rfl); (case hg => rfl); (case hr => first | (go_simp; done) | (go_simp; rfl)); intro gb228 hg w35 hbox hb; have n0_ := Aside0.mk (Kd.R_below zO3_28 hb); have n1_ := Aside0.mk (Kd.R_below zO3_29 hb); have n2_ := Aside0.mk (Kd.R_below zO3_30 hb); have n3_ := Aside0.mk (blk_below (g := gb208) (o := .cells #[.int .i64 a0_0, .slice A0_1 l0_1.length c0_1] 24 (0, 0)) zO3_19 hb); have n4_ := Aside0.mk (blk_below (g := gb209) (o := .cells #[.int .i64 a1_0, .int .i64 a1_1, .int .i64 a1_2] 34 (0, 0)) zO3_20 hb); have n5_ := Aside0.mk (blk_below (g := gb223) (o := .cells #[.int .i64 t218, .slice Ao30 t219.length co30] 29 (0, 0)) zO3_21 hb); have n6_ := Aside0.mk (below_step zO3_3 hb); have n7_ := Aside0.mk (hbox); have n8_ := Aside0.mk ((by rw [hg]; exact (below_size zO3_3) : w.heap.size ≤ gb228)); have n9_ := Aside0.mk ((by rw [hg]; exact (below_size zO3_3) : w.heap.size ≤ gb228)); have n10_ := Aside0.mk ((by rw [hg]; exact Nat.ne_of_lt (blk_lt (g := gb208) (o := .cells #[.int .i64 a0_0, .slice A0_1 l0_1.length c0_1] 24 (0, 0)) zO3_19) : gb208 ≠ gb228)); have n11_ := Aside0.mk ((by rw [hg]; exact Nat.ne_of_gt (blk_lt (g := gb208) (o := .cells #[.int .i64 a0_0, .slice A0_1 l0_1.length c0_1] 24 (0, 0)) zO3_19) : gb228 ≠ gb208)); have n12_ := Aside0.mk ((by rw [hg]; exact Nat.ne_of_lt (blk_lt (g := gb209) (o := .cells #[.int .i64 a1_0, .int .i64 a1_1, .int .i64 a1_2] 34 (0, 0)) zO3_20) : gb209 ≠ gb228)); have n13_ := Aside0.mk ((by rw [hg]; exact Nat.ne_of_gt (blk_lt (g := gb209) (o := .cells #[.int .i64 a1_0, .int .i64 a1_1, .int .i64 a1_2] 34 (0, 0)) zO3_20) : gb228 ≠ gb209)); have n14_ := Aside0.mk ((by rw [hg]; exact Nat.ne_of_lt (blk_lt (g := gb223) (o := .cells #[.int .i64 t218, .slice Ao30 t219.length co30] 29 (0, 0)) zO3_21) : gb223 ≠ gb228)); have n15_ := Aside0.mk ((by rw [hg]; exact Nat.ne_of_gt (blk_lt (g := gb223) (o := .cells #[.int .i64 t218, .slice Ao30 t219.length co30] 29 (0, 0)) zO3_21) : gb228 ≠ gb223)); clear HO214; clear HO221; clear HO227; clear BK208; clear BK209; clear BK223; clear HB; have HO214 := n0_; have HO221 := n1_; have HO227 := n2_; have BK208 := n3_; have BK209 := n4_; have BK223 := n5_; have HB := n6_; have BK228 := n7_; have GW228 := n8_; have GE228 := n9_; have NB208_228 := n10_; have NB228_208 := n11_; have NB209_228 := n12_; have NB228_209 := n13_; have NB223_228 := n14_; have NB228_223 := n15_; clear n0_ n1_ n2_ n3_ n4_ n5_ n6_ n7_ n8_ n9_ n10_ n11_ n12_ n13_ n14_ n15_; clear hb hbox hg; have hnb36 := NB228_208.out; have hnc36 := NB208_228.out; have hnb37 := NB228_209.out; have hnc37 := NB209_228.out; have hnb38 := NB228_223.out; have hnc38 := NB223_228.out; have hcz39_0 : w35.cell? ⟨gb228, 0, none⟩ = some (.int .i64 0) := (blk_cell BK228.out 0).trans rfl; have hcz39_1 : w35.cell? ⟨gb228, 1, none⟩ = some (.slice none 0 0) := (blk_cell BK228.out 1).trans rfl; have hfz39_0 := blk_frozen BK228.out 0; have hfz39_1 := blk_frozen BK228.out 1; obtain ⟨Ao40, co40, eo40⟩ := Kd.R_slice HO227.out; subst eo40))
    have n0_ : Aside0 (Kd.R k37 37 ((w35.setCell ⟨gb228, 0, none⟩ (.int .i64 t224)).setCell ⟨gb228, 1, none⟩ (.slice Ao40 t225.length co40)) w.heap.size (fun k_ => some k_ ≠ (.slice Ao30 t219.length co30 : Value).ownBlock ∧ some k_ ≠ (.slice Ao40 t225.length co40 : Value).ownBlock) v213 t212) := ⟨by (with_reducible repeat (first | apply Kd.R_alloc | apply Kd.R_drewN | apply Kd.R_drew)); exact Kd.R_mono (Kd.R_far (p := ⟨gb228, 1, none⟩) (Kd.R_far (p := ⟨gb228, 0, none⟩) (Kd.R_types HO214.out BK228.out (by decide)) (fun _ hk => hk.2) (.int .i64 t224)) (fun _ hk => hk.2) (.slice Ao40 t225.length co40)) (fun _ hk => ⟨hk.1.1, hk.1.2⟩)⟩
    have n1_ : Aside0 (Kd.R k37 37 ((w35.setCell ⟨gb228, 0, none⟩ (.int .i64 t224)).setCell ⟨gb228, 1, none⟩ (.slice Ao40 t225.length co40)) w.heap.size (fun k_ => some k_ ≠ (v213 : Value).ownBlock ∧ some k_ ≠ (.slice Ao40 t225.length co40 : Value).ownBlock) (.slice Ao30 t219.length co30) t219) := ⟨by (with_reducible repeat (first | apply Kd.R_alloc | apply Kd.R_drewN | apply Kd.R_drew)); exact Kd.R_mono (Kd.R_far (p := ⟨gb228, 1, none⟩) (Kd.R_far (p := ⟨gb228, 0, none⟩) (Kd.R_types HO221.out BK228.out (by decide)) (fun _ hk => hk.2) (.int .i64 t224)) (fun _ hk => hk.2) (.slice Ao40 t225.length co40)) (fun _ hk => ⟨hk.1.1, hk.1.2⟩)⟩
    have n2_ : Aside0 (Kd.R k37 37 ((w35.setCell ⟨gb228, 0, none⟩ (.int .i64 t224)).setCell ⟨gb228, 1, none⟩ (.slice Ao40 t225.length co40)) w.heap.size (fun k_ => some k_ ≠ (v213 : Value).ownBlock ∧ some k_ ≠ (.slice Ao30 t219.length co30 : Value).ownBlock) (.slice Ao40 t225.length co40) t225) := ⟨by (with_reducible repeat (first | apply Kd.R_alloc | apply Kd.R_drewN | apply Kd.R_drew)); exact Kd.R_mono (Kd.R_far (p := ⟨gb228, 1, none⟩) (Kd.R_far (p := ⟨gb228, 0, none⟩) (Kd.R_types HO227.out BK228.out (by decide)) (fun _ hk => hk.2) (.int .i64 t224)) (fun _ hk => hk.2) (.slice Ao40 t225.length co40)) (fun _ hk => ⟨hk.1.1.2, hk.1.2⟩)⟩
    have n3_ : Aside0 (((w35.setCell ⟨gb228, 0, none⟩ (.int .i64 t224)).setCell ⟨gb228, 1, none⟩ (.slice Ao40 t225.length co40)).heap[gb208]? = some (.cells #[.int .i64 a0_0, .slice A0_1 l0_1.length c0_1] 24 (0, 0))) := ⟨by (with_reducible repeat (first | refine blk_drewN ?_ _ | refine blk_drew ?_ | refine blk_alloc ?_ _)); refine blk_far ?_ NB208_228.out _; (with_reducible repeat (first | refine blk_drewN ?_ _ | refine blk_drew ?_ | refine blk_alloc ?_ _)); refine blk_far ?_ NB208_228.out _; (with_reducible repeat (first | refine blk_drewN ?_ _ | refine blk_drew ?_ | refine blk_alloc ?_ _)); exact BK208.out⟩
    have n4_ : Aside0 (((w35.setCell ⟨gb228, 0, none⟩ (.int .i64 t224)).setCell ⟨gb228, 1, none⟩ (.slice Ao40 t225.length co40)).heap[gb209]? = some (.cells #[.int .i64 a1_0, .int .i64 a1_1, .int .i64 a1_2] 34 (0, 0))) := ⟨by (with_reducible repeat (first | refine blk_drewN ?_ _ | refine blk_drew ?_ | refine blk_alloc ?_ _)); refine blk_far ?_ NB209_228.out _; (with_reducible repeat (first | refine blk_drewN ?_ _ | refine blk_drew ?_ | refine blk_alloc ?_ _)); refine blk_far ?_ NB209_228.out _; (with_reducible repeat (first | refine blk_drewN ?_ _ | refine blk_drew ?_ | refine blk_alloc ?_ _)); exact BK209.out⟩
    have n5_ : Aside0 (((w35.setCell ⟨gb228, 0, none⟩ (.int .i64 t224)).setCell ⟨gb228, 1, none⟩ (.slice Ao40 t225.length co40)).heap[gb223]? = some (.cells #[.int .i64 t218, .slice Ao30 t219.length co30] 29 (0, 0))) := ⟨by (with_reducible repeat (first | refine blk_drewN ?_ _ | refine blk_drew ?_ | refine blk_alloc ?_ _)); refine blk_far ?_ NB223_228.out _; (with_reducible repeat (first | refine blk_drewN ?_ _ | refine blk_drew ?_ | refine blk_alloc ?_ _)); refine blk_far ?_ NB223_228.out _; (with_reducible repeat (first | refine blk_drewN ?_ _ | refine blk_drew ?_ | refine blk_alloc ?_ _)); exact BK223.out⟩
    have n6_ : Aside0 (((w35.setCell ⟨gb228, 0, none⟩ (.int .i64 t224)).setCell ⟨gb228, 1, none⟩ (.slice Ao40 t225.length co40)).heap[gb228]? = some (.cells #[.int .i64 t224, .slice Ao40 t225.length co40] 29 (0, 0))) := ⟨by (with_reducible repeat (first | refine blk_drewN ?_ _ | refine blk_drew ?_ | refine blk_alloc ?_ _)); refine blk_put (cs := #[.int .i64 t224, .slice none 0 0]) ?_ 1 _ rfl; (with_reducible repeat (first | refine blk_drewN ?_ _ | refine blk_drew ?_ | refine blk_alloc ?_ _)); refine blk_put (cs := #[.int .i64 0, .slice none 0 0]) ?_ 0 _ rfl; (with_reducible repeat (first | refine blk_drewN ?_ _ | refine blk_drew ?_ | refine blk_alloc ?_ _)); exact BK228.out⟩
    have n7_ : Aside0 (Below w.heap.size w ((w35.setCell ⟨gb228, 0, none⟩ (.int .i64 t224)).setCell ⟨gb228, 1, none⟩ (.slice Ao40 t225.length co40))) := ⟨by repeat (first | (with_reducible first | exact HB.out | apply below_alloc | apply pw_below_drewN | apply below_drew1 | refine below_set ?_ GE208.out | refine below_set ?_ GE209.out | refine below_set ?_ GE223.out | refine below_set ?_ GE228.out) | exact HB.out)⟩
    (try clear HO214)
    (try clear HO221)
    (try clear HO227)
    (try clear BK208)
    (try clear BK209)
    (try clear BK223)
    (try clear BK228)
    (try clear HB)
    generalize ((w35.setCell ⟨gb228, 0, none⟩ (.int .i64 t224)).setCell ⟨gb228, 1, none⟩ (.slice Ao40 t225.length co40)) = w41 at n0_ n1_ n2_ n3_ n4_ n5_ n6_ n7_ ⊢
    have HO214 := n0_; have HO221 := n1_; have HO227 := n2_; have BK208 := n3_; have BK209 := n4_; have BK223 := n5_; have BK228 := n6_; have HB := n7_; clear n0_ n1_ n2_ n3_ n4_ n5_ n6_ n7_
    have n0_ := Aside0.mk (Kd.R_drew HO214.out)
    have n1_ := Aside0.mk (Kd.R_drew HO221.out)
    have n2_ := Aside0.mk (Kd.R_drew HO227.out)
    have n3_ := Aside0.mk (blk_drew BK208.out)
    have n4_ := Aside0.mk (blk_drew BK209.out)
    have n5_ := Aside0.mk (blk_drew BK223.out)
    have n6_ := Aside0.mk (blk_drew BK228.out)
    have n7_ := Aside0.mk (below_drew1 HB.out)
    clear HO214; clear HO221; clear HO227; clear BK208; clear BK209; clear BK223; clear BK228; clear HB; have HO214 := n0_; have HO221 := n1_; have HO227 := n2_; have BK208 := n3_; have BK209 := n4_; have BK223 := n5_; have BK228 := n6_; have HB := n7_; clear n0_ n1_ n2_ n3_ n4_ n5_ n6_ n7_
    refine start_ (n := 10) (S := fun w' => w'.cell? ⟨gb228, 0, none⟩ = some (.int .i64 t224) ∧ w'.cell? ⟨gb228, 1, none⟩ = some (.slice Ao40 t225.length co40) ∧ w'.cell? ⟨gb209, 0, none⟩ = some (.int .i64 a1_0) ∧ w'.cell? ⟨gb209, 1, none⟩ = some (.int .i64 a1_1) ∧ w'.cell? ⟨gb209, 2, none⟩ = some (.int .i64 a1_2)) (ds := []) #[false, false, false, false, false, false, false, false, false, false] (by kernel_rfl) rfl rfl ⟨(blk_cell BK228.out 0).trans rfl, (blk_cell BK228.out 1).trans rfl, (blk_cell BK209.out 0).trans rfl, (blk_cell BK209.out 1).trans rfl, (blk_cell BK209.out 2).trans rfl⟩ (fun hHeld => ?_); refine with_tabW laws_FnExactAddClue.tab7 laws_FnExactAddClue.bits7 (fun HT_ HW_ => ?_)
    generalize w41.drew = w42 at HO214 HO221 HO227 BK208 BK209 BK223 BK228 HB hHeld ⊢
    refine take_ (i := 0) (N := some 32) (v := ?_) (a' := ?_) #[true, false, false, false, false, false, false, false, false, false] rfl rfl (take_ofW HT_.out HW_.out (by kernel_rfl)) (fun _ _ _ h => h) (Or.inl ⟨by rfl, ?_⟩) hHeld ?_ ?_
    rotate_left
    · rintro w' ⟨s0, s1, s2, s3, s4⟩
      go_simp
      with_reducible rfl
    rotate_left
    · simp only [Act.put, List.setIfInBounds_toArray, List.set_cons_zero, List.set_cons_succ, i64_w, i32_w]
      rfl
    refine take_ (i := 1) (N := some 33) (v := ?_) (a' := ?_) #[true, true, false, false, false, false, false, false, false, false] rfl rfl (take_ofW HT_.out HW_.out (by kernel_rfl)) (fun _ _ _ h => h) (Or.inl ⟨by rfl, ?_⟩) hHeld ?_ ?_
    rotate_left
    · rintro w' ⟨s0, s1, s2, s3, s4⟩
      go_simp
      with_reducible rfl
    rotate_left
    · simp only [Act.put, List.setIfInBounds_toArray, List.set_cons_zero, List.set_cons_succ, i64_w, i32_w]
      rfl
    refine join_ (σ := Value × Nat) 2 #[true, true, true, true, true, true, true, true, false, false] (fun s_ => [(34, .agg #[.int .i64 t229, .int .i64 t230, .int .i64 t231]), (35, .tuple #[.agg #[.int .i64 t232, s_.1], .bool t236]), (9, .pointer (some ⟨s_.2, 0, none⟩)), (31, .tuple #[.agg #[.int .i64 t232, s_.1], .bool t236]), (36, .agg #[.int .i64 t232, s_.1]), (37, .bool t236)]) (fun s_ w' => (w'.cell? ⟨gb228, 0, none⟩ = some (.int .i64 t224) ∧ w'.cell? ⟨gb228, 1, none⟩ = some (.slice Ao40 t225.length co40) ∧ w'.cell? ⟨gb209, 0, none⟩ = some (.int .i64 a1_0) ∧ w'.cell? ⟨gb209, 1, none⟩ = some (.int .i64 a1_1) ∧ w'.cell? ⟨gb209, 2, none⟩ = some (.int .i64 a1_2)) ∧ (Kd.R k37 37 w' w.heap.size (fun k_ => some k_ ≠ (.slice Ao30 t219.length co30 : Value).ownBlock ∧ some k_ ≠ (.slice Ao40 t225.length co40 : Value).ownBlock ∧ some k_ ≠ (s_.1 : Value).ownBlock) v213 t212) ∧ (Kd.R k37 37 w' w.heap.size (fun k_ => some k_ ≠ (v213 : Value).ownBlock ∧ some k_ ≠ (.slice Ao40 t225.length co40 : Value).ownBlock ∧ some k_ ≠ (s_.1 : Value).ownBlock) (.slice Ao30 t219.length co30) t219) ∧ (Kd.R k37 37 w' w.heap.size (fun k_ => some k_ ≠ (v213 : Value).ownBlock ∧ some k_ ≠ (.slice Ao30 t219.length co30 : Value).ownBlock ∧ some k_ ≠ (s_.1 : Value).ownBlock) (.slice Ao40 t225.length co40) t225) ∧ (Kd.R k37 37 w' w.heap.size (fun k_ => some k_ ≠ (v213 : Value).ownBlock ∧ some k_ ≠ (.slice Ao30 t219.length co30 : Value).ownBlock ∧ some k_ ≠ (.slice Ao40 t225.length co40 : Value).ownBlock) s_.1 t233) ∧ (w'.heap[gb208]? = some (.cells #[.int .i64 a0_0, .slice A0_1 l0_1.length c0_1] 24 (0, 0))) ∧ (w'.heap[gb209]? = some (.cells #[.int .i64 a1_0, .int .i64 a1_1, .int .i64 a1_2] 34 (0, 0))) ∧ (w'.heap[gb223]? = some (.cells #[.int .i64 t218, .slice Ao30 t219.length co30] 29 (0, 0))) ∧ (w'.heap[gb228]? = some (.cells #[.int .i64 t224, .slice Ao40 t225.length co40] 29 (0, 0))) ∧ (w'.heap[s_.2]? = some (.cells #[.int .i64 0, .slice none 0 0] 29 (0, 0))) ∧ (w.heap.size ≤ s_.2) ∧ (w.heap.size ≤ s_.2) ∧ (gb208 ≠ s_.2) ∧ (s_.2 ≠ gb208) ∧ (gb209 ≠ s_.2) ∧ (s_.2 ≠ gb209) ∧ (gb223 ≠ s_.2) ∧ (s_.2 ≠ gb223) ∧ (gb228 ≠ s_.2) ∧ (s_.2 ≠ gb228) ∧ (Below w.heap.size w w')) ?_ ?_
    rotate_left
    · intro hCont
      refine two_ (i := 2) (j := 7) (Ni := some 34) (Nj := some 9) #[true, true, true, false, false, false, false, false, false, false] #[true, true, false, false, false, false, false, true, false, false] rfl rfl rfl rfl (two_of HT_.out (by kernel_rfl)) (by decide) (by decide) (fun K hK => ?_) (fun K hK => ?_)
      · skip
        refine goes_ Try.func21 (by kernel_rfl) rfl #[.agg #[.int .i64 a1_0, .int .i64 a1_1, .int .i64 a1_2]] (by rfl) rfl rfl zO3_15 ?_
        with_reducible refine (laws_toClue.calls a1_0 a1_1 a1_2 t229 t230 t231 _ A14.out).mono ?_
        rintro e w43 ⟨rfl, hb⟩
        refine ⟨_, rfl, ?_⟩
        have n0_ := Aside0.mk (Kd.R_below zO3_28 hb)
        have n1_ := Aside0.mk (Kd.R_below zO3_29 hb)
        have n2_ := Aside0.mk (Kd.R_below zO3_30 hb)
        have n3_ := Aside0.mk (blk_below (g := gb208) (o := .cells #[.int .i64 a0_0, .slice A0_1 l0_1.length c0_1] 24 (0, 0)) zO3_19 hb)
        have n4_ := Aside0.mk (blk_below (g := gb209) (o := .cells #[.int .i64 a1_0, .int .i64 a1_1, .int .i64 a1_2] 34 (0, 0)) zO3_20 hb)
        have n5_ := Aside0.mk (blk_below (g := gb223) (o := .cells #[.int .i64 t218, .slice Ao30 t219.length co30] 29 (0, 0)) zO3_21 hb)
        have n6_ := Aside0.mk (blk_below (g := gb228) (o := .cells #[.int .i64 t224, .slice Ao40 t225.length co40] 29 (0, 0)) zO3_22 hb)
        have n7_ := Aside0.mk (below_step zO3_2 hb)
        clear HO214; clear HO221; clear HO227; clear BK208; clear BK209; clear BK223; clear BK228; clear HB; have HO214 := n0_; have HO221 := n1_; have HO227 := n2_; have BK208 := n3_; have BK209 := n4_; have BK223 := n5_; have BK228 := n6_; have HB := n7_; clear n0_ n1_ n2_ n3_ n4_ n5_ n6_ n7_
        (try clear hb)
        (try clear hb2)
        (try clear hk)
        (try clear hi)
        refine hK.out _ _ ⟨(blk_cell BK228.out 0).trans rfl, (blk_cell BK228.out 1).trans rfl, (blk_cell BK209.out 0).trans rfl, (blk_cell BK209.out 1).trans rfl, (blk_cell BK209.out 2).trans rfl⟩ (fun hHeld => ?_)
        clear hK K
        refine norm_ (a' := ?_) ?_ ?_
        rotate_left
        · show Act.put _ (some 34) _ = _
          simp only [Act.put, List.setIfInBounds_toArray, List.set_cons_zero, List.set_cons_succ, i64_w, i32_w]
          rfl
        refine two_ (i := 3) (j := 7) (Ni := some 35) (Nj := some 9) #[true, true, true, true, false, false, false, false, false, false] #[true, true, true, false, false, false, false, true, false, false] rfl rfl rfl rfl (two_of HT_.out (by kernel_rfl)) (by decide) (by decide) (fun K hK => ?_) (fun K hK => ?_)
        · skip
          refine goes_ Try.func22 (by kernel_rfl) rfl #[.agg #[.int .i64 t224, .slice Ao40 t225.length co40], .agg #[.int .i64 t229, .int .i64 t230, .int .i64 t231]] (by rfl) rfl rfl zO3_15 ?_
          with_reducible refine (impl_AddClue.calls k t224 _ _ t225 t229 t230 t231 t232 t233 t236 _ ?side1 ?side2 A15.out).mono ?_
          (case side1 => repeat (first | exact (Kd.R_reads' HO227.out).2.2 | (with_reducible refine Kd.C_alloc ?_ _) | (with_reducible refine Kd.C_drewN ?_ _) | (with_reducible refine Kd.C_drew ?_)))
          (case side2 => exact (Kd.R_reads' HO227.out).2.1)
          rintro e w44 ⟨v234, rfl, ho0, hb⟩
          refine ⟨_, rfl, ?_⟩
          have n0_ := Aside0.mk (Kd.R_elder' zO3_28 (Kd.R_base ho0) hb)
          have n1_ := Aside0.mk (Kd.R_elder' zO3_29 (Kd.R_base ho0) hb)
          have n2_ := Aside0.mk (Kd.R_elder' zO3_30 (Kd.R_base ho0) hb)
          have n3_ := Aside0.mk (Kd.R_lower (Kd.R_new' (Kd.R_new' (Kd.R_new' ho0 (Kd.R_lt zO3_28)) (Kd.R_lt zO3_29)) (Kd.R_lt zO3_30)) (below_size zO3_2))
          have n4_ := Aside0.mk (blk_below (g := gb208) (o := .cells #[.int .i64 a0_0, .slice A0_1 l0_1.length c0_1] 24 (0, 0)) zO3_19 hb)
          have n5_ := Aside0.mk (blk_below (g := gb209) (o := .cells #[.int .i64 a1_0, .int .i64 a1_1, .int .i64 a1_2] 34 (0, 0)) zO3_20 hb)
          have n6_ := Aside0.mk (blk_below (g := gb223) (o := .cells #[.int .i64 t218, .slice Ao30 t219.length co30] 29 (0, 0)) zO3_21 hb)
          have n7_ := Aside0.mk (blk_below (g := gb228) (o := .cells #[.int .i64 t224, .slice Ao40 t225.length co40] 29 (0, 0)) zO3_22 hb)
          have n8_ := Aside0.mk (below_step zO3_2 hb)
          clear HO214; clear HO221; clear HO227; clear BK208; clear BK209; clear BK223; clear BK228; clear HB; have HO214 := n0_; have HO221 := n1_; have HO227 := n2_; have HO235 := n3_; have BK208 := n4_; have BK209 := n5_; have BK223 := n6_; have BK228 := n7_; have HB := n8_; clear n0_ n1_ n2_ n3_ n4_ n5_ n6_ n7_ n8_
          (try clear hb)
          (try clear hb2)
          (try clear hk)
          (try clear hi)
          (try clear ho0)
          refine hK.out _ _ ⟨(blk_cell BK228.out 0).trans rfl, (blk_cell BK228.out 1).trans rfl, (blk_cell BK209.out 0).trans rfl, (blk_cell BK209.out 1).trans rfl, (blk_cell BK209.out 2).trans rfl⟩ (fun hHeld => ?_)
          clear hK K
          refine norm_ (a' := ?_) ?_ ?_
          rotate_left
          · show Act.put _ (some 35) _ = _
            simp only [Act.put, List.setIfInBounds_toArray, List.set_cons_zero, List.set_cons_succ, i64_w, i32_w]
            rfl
          refine pure_ (i := 4) (N := some 31) (v := ?_) (a' := ?_) #[true, true, true, true, true, false, false, false, false, false] rfl rfl (any_of HT_.out (by kernel_rfl)) (fun _ _ _ h => h) (Or.inl ⟨by rfl, ?_⟩) ?_ ?_
          rotate_left
          · intro w'
            go_simp
            with_reducible rfl
          rotate_left
          · simp only [Act.put, List.setIfInBounds_toArray, List.set_cons_zero, List.set_cons_succ, i64_w, i32_w]
            rfl
          refine pure_ (i := 5) (N := some 36) (v := ?_) (a' := ?_) #[true, true, true, true, true, true, false, false, false, false] rfl rfl (any_of HT_.out (by kernel_rfl)) (fun _ _ _ h => h) (Or.inl ⟨by rfl, ?_⟩) ?_ ?_
          rotate_left
          · intro w'
            go_simp
            with_reducible rfl
          rotate_left
          · simp only [Act.put, List.setIfInBounds_toArray, List.set_cons_zero, List.set_cons_succ, i64_w, i32_w]
            rfl
          refine pure_ (i := 6) (N := some 37) (v := ?_) (a' := ?_) #[true, true, true, true, true, true, true, false, false, false] rfl rfl (any_of HT_.out (by kernel_rfl)) (fun _ _ _ h => h) (Or.inl ⟨by rfl, ?_⟩) ?_ ?_
          rotate_left
          · intro w'
            go_simp
            with_reducible rfl
          rotate_left
          · simp only [Act.put, List.setIfInBounds_toArray, List.set_cons_zero, List.set_cons_succ, i64_w, i32_w]
            rfl
          refine one_ (i := 7) (N := some 9) #[true, true, true, true, true, true, true, true, false, false] rfl rfl (one_of HT_.out (by kernel_rfl)) (by decide) (fun K hK => ?_)
          refine box_step ?hg (N := 9) ?hd (cs := #[.int .i64 0, .slice none 0 0]) (t := 29) ?hr ?_; (case hd => rfl); (case hg => rfl); (case hr => first | (go_simp; done) | (go_simp; rfl))
          intro gb237 hg w45 hbox hb
          have n0_ := Aside0.mk (Kd.R_below zO3_28 hb)
          have n1_ := Aside0.mk (Kd.R_below zO3_29 hb)
          have n2_ := Aside0.mk (Kd.R_below zO3_30 hb)
          have n3_ := Aside0.mk (Kd.R_below (by (with_reducible repeat (first | apply Kd.R_alloc | apply Kd.R_drewN | apply Kd.R_drew)); exact HO235.out) hb)
          have n4_ := Aside0.mk (blk_below (g := gb208) (o := .cells #[.int .i64 a0_0, .slice A0_1 l0_1.length c0_1] 24 (0, 0)) zO3_19 hb)
          have n5_ := Aside0.mk (blk_below (g := gb209) (o := .cells #[.int .i64 a1_0, .int .i64 a1_1, .int .i64 a1_2] 34 (0, 0)) zO3_20 hb)
          have n6_ := Aside0.mk (blk_below (g := gb223) (o := .cells #[.int .i64 t218, .slice Ao30 t219.length co30] 29 (0, 0)) zO3_21 hb)
          have n7_ := Aside0.mk (blk_below (g := gb228) (o := .cells #[.int .i64 t224, .slice Ao40 t225.length co40] 29 (0, 0)) zO3_22 hb)
          have n8_ := Aside0.mk (below_step zO3_2 hb)
          have n9_ := Aside0.mk (hbox)
          have n10_ := Aside0.mk ((by rw [hg]; exact (below_size zO3_2) : w.heap.size ≤ gb237))
          have n11_ := Aside0.mk ((by rw [hg]; exact (below_size zO3_2) : w.heap.size ≤ gb237))
          have n12_ := Aside0.mk ((by rw [hg]; exact Nat.ne_of_lt (blk_lt (g := gb208) (o := .cells #[.int .i64 a0_0, .slice A0_1 l0_1.length c0_1] 24 (0, 0)) zO3_19) : gb208 ≠ gb237))
          have n13_ := Aside0.mk ((by rw [hg]; exact Nat.ne_of_gt (blk_lt (g := gb208) (o := .cells #[.int .i64 a0_0, .slice A0_1 l0_1.length c0_1] 24 (0, 0)) zO3_19) : gb237 ≠ gb208))
          have n14_ := Aside0.mk ((by rw [hg]; exact Nat.ne_of_lt (blk_lt (g := gb209) (o := .cells #[.int .i64 a1_0, .int .i64 a1_1, .int .i64 a1_2] 34 (0, 0)) zO3_20) : gb209 ≠ gb237))
          have n15_ := Aside0.mk ((by rw [hg]; exact Nat.ne_of_gt (blk_lt (g := gb209) (o := .cells #[.int .i64 a1_0, .int .i64 a1_1, .int .i64 a1_2] 34 (0, 0)) zO3_20) : gb237 ≠ gb209))
          have n16_ := Aside0.mk ((by rw [hg]; exact Nat.ne_of_lt (blk_lt (g := gb223) (o := .cells #[.int .i64 t218, .slice Ao30 t219.length co30] 29 (0, 0)) zO3_21) : gb223 ≠ gb237))
          have n17_ := Aside0.mk ((by rw [hg]; exact Nat.ne_of_gt (blk_lt (g := gb223) (o := .cells #[.int .i64 t218, .slice Ao30 t219.length co30] 29 (0, 0)) zO3_21) : gb237 ≠ gb223))
          have n18_ := Aside0.mk ((by rw [hg]; exact Nat.ne_of_lt (blk_lt (g := gb228) (o := .cells #[.int .i64 t224, .slice Ao40 t225.length co40] 29 (0, 0)) zO3_22) : gb228 ≠ gb237))
          have n19_ := Aside0.mk ((by rw [hg]; exact Nat.ne_of_gt (blk_lt (g := gb228) (o := .cells #[.int .i64 t224, .slice Ao40 t225.length co40] 29 (0, 0)) zO3_22) : gb237 ≠ gb228))
          clear HO214; clear HO221; clear HO227; clear HO235; clear BK208; clear BK209; clear BK223; clear BK228; clear HB; have HO214 := n0_; have HO221 := n1_; have HO227 := n2_; have HO235 := n3_; have BK208 := n4_; have BK209 := n5_; have BK223 := n6_; have BK228 := n7_; have HB := n8_; have BK237 := n9_; have GW237 := n10_; have GE237 := n11_; have NB208_237 := n12_; have NB237_208 := n13_; have NB209_237 := n14_; have NB237_209 := n15_; have NB223_237 := n16_; have NB237_223 := n17_; have NB228_237 := n18_; have NB237_228 := n19_; clear n0_ n1_ n2_ n3_ n4_ n5_ n6_ n7_ n8_ n9_ n10_ n11_ n12_ n13_ n14_ n15_ n16_ n17_ n18_ n19_; clear hb hbox hg
          refine hK.out _ _ ⟨(blk_cell BK228.out 0).trans rfl, (blk_cell BK228.out 1).trans rfl, (blk_cell BK209.out 0).trans rfl, (blk_cell BK209.out 1).trans rfl, (blk_cell BK209.out 2).trans rfl⟩ (fun hHeld => ?_)
          clear hK K
          refine norm_ (a' := ?_) ?_ ?_
          rotate_left
          · show Act.put _ (some 9) _ = _
            simp only [Act.put, List.setIfInBounds_toArray, List.set_cons_zero, List.set_cons_succ, i64_w, i32_w]
            rfl
          exact norm_ zO3_33 (hCont (v234, gb237) _ ⟨hHeld, zO3_12, zO3_13, zO3_14, zO3_11, zO3_19, zO3_20, zO3_21, zO3_22, zO3_23, GW237.out, GE237.out, NB208_237.out, NB237_208.out, NB209_237.out, NB237_209.out, NB223_237.out, NB237_223.out, NB228_237.out, NB237_228.out, zO3_1⟩)
        · skip
          refine box_step ?hg (N := 9) ?hd (cs := #[.int .i64 0, .slice none 0 0]) (t := 29) ?hr ?_; (case hd => rfl); (case hg => rfl); (case hr => first | (go_simp; done) | (go_simp; rfl))
          intro gb237 hg w44 hbox hb
          have n0_ := Aside0.mk (Kd.R_below zO3_28 hb)
          have n1_ := Aside0.mk (Kd.R_below zO3_29 hb)
          have n2_ := Aside0.mk (Kd.R_below zO3_30 hb)
          have n3_ := Aside0.mk (blk_below (g := gb208) (o := .cells #[.int .i64 a0_0, .slice A0_1 l0_1.length c0_1] 24 (0, 0)) zO3_19 hb)
          have n4_ := Aside0.mk (blk_below (g := gb209) (o := .cells #[.int .i64 a1_0, .int .i64 a1_1, .int .i64 a1_2] 34 (0, 0)) zO3_20 hb)
          have n5_ := Aside0.mk (blk_below (g := gb223) (o := .cells #[.int .i64 t218, .slice Ao30 t219.length co30] 29 (0, 0)) zO3_21 hb)
          have n6_ := Aside0.mk (blk_below (g := gb228) (o := .cells #[.int .i64 t224, .slice Ao40 t225.length co40] 29 (0, 0)) zO3_22 hb)
          have n7_ := Aside0.mk (below_step zO3_2 hb)
          have n8_ := Aside0.mk (hbox)
          have n9_ := Aside0.mk ((by rw [hg]; exact (below_size zO3_2) : w.heap.size ≤ gb237))
          have n10_ := Aside0.mk ((by rw [hg]; exact (below_size zO3_2) : w.heap.size ≤ gb237))
          have n11_ := Aside0.mk ((by rw [hg]; exact Nat.ne_of_lt (blk_lt (g := gb208) (o := .cells #[.int .i64 a0_0, .slice A0_1 l0_1.length c0_1] 24 (0, 0)) zO3_19) : gb208 ≠ gb237))
          have n12_ := Aside0.mk ((by rw [hg]; exact Nat.ne_of_gt (blk_lt (g := gb208) (o := .cells #[.int .i64 a0_0, .slice A0_1 l0_1.length c0_1] 24 (0, 0)) zO3_19) : gb237 ≠ gb208))
          have n13_ := Aside0.mk ((by rw [hg]; exact Nat.ne_of_lt (blk_lt (g := gb209) (o := .cells #[.int .i64 a1_0, .int .i64 a1_1, .int .i64 a1_2] 34 (0, 0)) zO3_20) : gb209 ≠ gb237))
          have n14_ := Aside0.mk ((by rw [hg]; exact Nat.ne_of_gt (blk_lt (g := gb209) (o := .cells #[.int .i64 a1_0, .int .i64 a1_1, .int .i64 a1_2] 34 (0, 0)) zO3_20) : gb237 ≠ gb209))
          have n15_ := Aside0.mk ((by rw [hg]; exact Nat.ne_of_lt (blk_lt (g := gb223) (o := .cells #[.int .i64 t218, .slice Ao30 t219.length co30] 29 (0, 0)) zO3_21) : gb223 ≠ gb237))
          have n16_ := Aside0.mk ((by rw [hg]; exact Nat.ne_of_gt (blk_lt (g := gb223) (o := .cells #[.int .i64 t218, .slice Ao30 t219.length co30] 29 (0, 0)) zO3_21) : gb237 ≠ gb223))
          have n17_ := Aside0.mk ((by rw [hg]; exact Nat.ne_of_lt (blk_lt (g := gb228) (o := .cells #[.int .i64 t224, .slice Ao40 t225.length co40] 29 (0, 0)) zO3_22) : gb228 ≠ gb237))
          have n18_ := Aside0.mk ((by rw [hg]; exact Nat.ne_of_gt (blk_lt (g := gb228) (o := .cells #[.int .i64 t224, .slice Ao40 t225.length co40] 29 (0, 0)) zO3_22) : gb237 ≠ gb228))
          clear HO214; clear HO221; clear HO227; clear BK208; clear BK209; clear BK223; clear BK228; clear HB; have HO214 := n0_; have HO221 := n1_; have HO227 := n2_; have BK208 := n3_; have BK209 := n4_; have BK223 := n5_; have BK228 := n6_; have HB := n7_; have BK237 := n8_; have GW237 := n9_; have GE237 := n10_; have NB208_237 := n11_; have NB237_208 := n12_; have NB209_237 := n13_; have NB237_209 := n14_; have NB223_237 := n15_; have NB237_223 := n16_; have NB228_237 := n17_; have NB237_228 := n18_; clear n0_ n1_ n2_ n3_ n4_ n5_ n6_ n7_ n8_ n9_ n10_ n11_ n12_ n13_ n14_ n15_ n16_ n17_ n18_; clear hb hbox hg
          refine hK.out _ _ ⟨(blk_cell BK228.out 0).trans rfl, (blk_cell BK228.out 1).trans rfl, (blk_cell BK209.out 0).trans rfl, (blk_cell BK209.out 1).trans rfl, (blk_cell BK209.out 2).trans rfl⟩ (fun hHeld => ?_)
          clear hK K
          refine norm_ (a' := ?_) ?_ ?_
          rotate_left
          · show Act.put _ (some 9) _ = _
            simp only [Act.put, List.setIfInBounds_toArray, List.set_cons_zero, List.set_cons_succ, i64_w, i32_w]
            rfl
          refine one_ (i := 3) (N := some 35) #[true, true, true, true, false, false, false, true, false, false] rfl rfl (one_of HT_.out (by kernel_rfl)) (by decide) (fun K hK => ?_)
          refine goes_ Try.func22 (by kernel_rfl) rfl #[.agg #[.int .i64 t224, .slice Ao40 t225.length co40], .agg #[.int .i64 t229, .int .i64 t230, .int .i64 t231]] (by rfl) rfl rfl zO3_15 ?_
          with_reducible refine (impl_AddClue.calls k t224 _ _ t225 t229 t230 t231 t232 t233 t236 _ ?side1 ?side2 A15.out).mono ?_
          (case side1 => repeat (first | exact (Kd.R_reads' HO227.out).2.2 | (with_reducible refine Kd.C_alloc ?_ _) | (with_reducible refine Kd.C_drewN ?_ _) | (with_reducible refine Kd.C_drew ?_)))
          (case side2 => exact (Kd.R_reads' HO227.out).2.1)
          rintro e w45 ⟨v234, rfl, ho0, hb⟩
          refine ⟨_, rfl, ?_⟩
          have n0_ := Aside0.mk (Kd.R_elder' zO3_28 (Kd.R_base ho0) hb)
          have n1_ := Aside0.mk (Kd.R_elder' zO3_29 (Kd.R_base ho0) hb)
          have n2_ := Aside0.mk (Kd.R_elder' zO3_30 (Kd.R_base ho0) hb)
          have n3_ := Aside0.mk (Kd.R_lower (Kd.R_new' (Kd.R_new' (Kd.R_new' ho0 (Kd.R_lt zO3_28)) (Kd.R_lt zO3_29)) (Kd.R_lt zO3_30)) (below_size zO3_1))
          have n4_ := Aside0.mk (blk_below (g := gb208) (o := .cells #[.int .i64 a0_0, .slice A0_1 l0_1.length c0_1] 24 (0, 0)) zO3_19 hb)
          have n5_ := Aside0.mk (blk_below (g := gb209) (o := .cells #[.int .i64 a1_0, .int .i64 a1_1, .int .i64 a1_2] 34 (0, 0)) zO3_20 hb)
          have n6_ := Aside0.mk (blk_below (g := gb223) (o := .cells #[.int .i64 t218, .slice Ao30 t219.length co30] 29 (0, 0)) zO3_21 hb)
          have n7_ := Aside0.mk (blk_below (g := gb228) (o := .cells #[.int .i64 t224, .slice Ao40 t225.length co40] 29 (0, 0)) zO3_22 hb)
          have n8_ := Aside0.mk (blk_below (g := gb237) (o := .cells #[.int .i64 0, .slice none 0 0] 29 (0, 0)) zO3_23 hb)
          have n9_ := Aside0.mk (below_step zO3_1 hb)
          clear HO214; clear HO221; clear HO227; clear BK208; clear BK209; clear BK223; clear BK228; clear BK237; clear HB; have HO214 := n0_; have HO221 := n1_; have HO227 := n2_; have HO235 := n3_; have BK208 := n4_; have BK209 := n5_; have BK223 := n6_; have BK228 := n7_; have BK237 := n8_; have HB := n9_; clear n0_ n1_ n2_ n3_ n4_ n5_ n6_ n7_ n8_ n9_
          (try clear hb)
          (try clear hb2)
          (try clear hk)
          (try clear hi)
          (try clear ho0)
          refine hK.out _ _ ⟨(blk_cell BK228.out 0).trans rfl, (blk_cell BK228.out 1).trans rfl, (blk_cell BK209.out 0).trans rfl, (blk_cell BK209.out 1).trans rfl, (blk_cell BK209.out 2).trans rfl⟩ (fun hHeld => ?_)
          clear hK K
          refine norm_ (a' := ?_) ?_ ?_
          rotate_left
          · show Act.put _ (some 35) _ = _
            simp only [Act.put, List.setIfInBounds_toArray, List.set_cons_zero, List.set_cons_succ, i64_w, i32_w]
            rfl
          refine pure_ (i := 4) (N := some 31) (v := ?_) (a' := ?_) #[true, true, true, true, true, false, false, true, false, false] rfl rfl (any_of HT_.out (by kernel_rfl)) (fun _ _ _ h => h) (Or.inl ⟨by rfl, ?_⟩) ?_ ?_
          rotate_left
          · intro w'
            go_simp
            with_reducible rfl
          rotate_left
          · simp only [Act.put, List.setIfInBounds_toArray, List.set_cons_zero, List.set_cons_succ, i64_w, i32_w]
            rfl
          refine pure_ (i := 5) (N := some 36) (v := ?_) (a' := ?_) #[true, true, true, true, true, true, false, true, false, false] rfl rfl (any_of HT_.out (by kernel_rfl)) (fun _ _ _ h => h) (Or.inl ⟨by rfl, ?_⟩) ?_ ?_
          rotate_left
          · intro w'
            go_simp
            with_reducible rfl
          rotate_left
          · simp only [Act.put, List.setIfInBounds_toArray, List.set_cons_zero, List.set_cons_succ, i64_w, i32_w]
            rfl
          refine pure_ (i := 6) (N := some 37) (v := ?_) (a' := ?_) #[true, true, true, true, true, true, true, true, false, false] rfl rfl (any_of HT_.out (by kernel_rfl)) (fun _ _ _ h => h) (Or.inl ⟨by rfl, ?_⟩) ?_ ?_
          rotate_left
          · intro w'
            go_simp
            with_reducible rfl
          rotate_left
          · simp only [Act.put, List.setIfInBounds_toArray, List.set_cons_zero, List.set_cons_succ, i64_w, i32_w]
            rfl
          exact norm_ zO3_33 (hCont (v234, gb237) _ ⟨hHeld, zO3_12, zO3_13, zO3_14, zO3_11, zO3_19, zO3_20, zO3_21, zO3_22, zO3_23, GW237.out, GE237.out, NB208_237.out, NB237_208.out, NB209_237.out, NB237_209.out, NB223_237.out, NB237_223.out, NB228_237.out, NB237_228.out, zO3_1⟩)
      · skip
        refine box_step ?hg (N := 9) ?hd (cs := #[.int .i64 0, .slice none 0 0]) (t := 29) ?hr ?_; (case hd => rfl); (case hg => rfl); (case hr => first | (go_simp; done) | (go_simp; rfl))
        intro gb237 hg w43 hbox hb
        have n0_ := Aside0.mk (Kd.R_below zO3_28 hb)
        have n1_ := Aside0.mk (Kd.R_below zO3_29 hb)
        have n2_ := Aside0.mk (Kd.R_below zO3_30 hb)
        have n3_ := Aside0.mk (blk_below (g := gb208) (o := .cells #[.int .i64 a0_0, .slice A0_1 l0_1.length c0_1] 24 (0, 0)) zO3_19 hb)
        have n4_ := Aside0.mk (blk_below (g := gb209) (o := .cells #[.int .i64 a1_0, .int .i64 a1_1, .int .i64 a1_2] 34 (0, 0)) zO3_20 hb)
        have n5_ := Aside0.mk (blk_below (g := gb223) (o := .cells #[.int .i64 t218, .slice Ao30 t219.length co30] 29 (0, 0)) zO3_21 hb)
        have n6_ := Aside0.mk (blk_below (g := gb228) (o := .cells #[.int .i64 t224, .slice Ao40 t225.length co40] 29 (0, 0)) zO3_22 hb)
        have n7_ := Aside0.mk (below_step zO3_2 hb)
        have n8_ := Aside0.mk (hbox)
        have n9_ := Aside0.mk ((by rw [hg]; exact (below_size zO3_2) : w.heap.size ≤ gb237))
        have n10_ := Aside0.mk ((by rw [hg]; exact (below_size zO3_2) : w.heap.size ≤ gb237))
        have n11_ := Aside0.mk ((by rw [hg]; exact Nat.ne_of_lt (blk_lt (g := gb208) (o := .cells #[.int .i64 a0_0, .slice A0_1 l0_1.length c0_1] 24 (0, 0)) zO3_19) : gb208 ≠ gb237))
        have n12_ := Aside0.mk ((by rw [hg]; exact Nat.ne_of_gt (blk_lt (g := gb208) (o := .cells #[.int .i64 a0_0, .slice A0_1 l0_1.length c0_1] 24 (0, 0)) zO3_19) : gb237 ≠ gb208))
        have n13_ := Aside0.mk ((by rw [hg]; exact Nat.ne_of_lt (blk_lt (g := gb209) (o := .cells #[.int .i64 a1_0, .int .i64 a1_1, .int .i64 a1_2] 34 (0, 0)) zO3_20) : gb209 ≠ gb237))
        have n14_ := Aside0.mk ((by rw [hg]; exact Nat.ne_of_gt (blk_lt (g := gb209) (o := .cells #[.int .i64 a1_0, .int .i64 a1_1, .int .i64 a1_2] 34 (0, 0)) zO3_20) : gb237 ≠ gb209))
        have n15_ := Aside0.mk ((by rw [hg]; exact Nat.ne_of_lt (blk_lt (g := gb223) (o := .cells #[.int .i64 t218, .slice Ao30 t219.length co30] 29 (0, 0)) zO3_21) : gb223 ≠ gb237))
        have n16_ := Aside0.mk ((by rw [hg]; exact Nat.ne_of_gt (blk_lt (g := gb223) (o := .cells #[.int .i64 t218, .slice Ao30 t219.length co30] 29 (0, 0)) zO3_21) : gb237 ≠ gb223))
        have n17_ := Aside0.mk ((by rw [hg]; exact Nat.ne_of_lt (blk_lt (g := gb228) (o := .cells #[.int .i64 t224, .slice Ao40 t225.length co40] 29 (0, 0)) zO3_22) : gb228 ≠ gb237))
        have n18_ := Aside0.mk ((by rw [hg]; exact Nat.ne_of_gt (blk_lt (g := gb228) (o := .cells #[.int .i64 t224, .slice Ao40 t225.length co40] 29 (0, 0)) zO3_22) : gb237 ≠ gb228))
        clear HO214; clear HO221; clear HO227; clear BK208; clear BK209; clear BK223; clear BK228; clear HB; have HO214 := n0_; have HO221 := n1_; have HO227 := n2_; have BK208 := n3_; have BK209 := n4_; have BK223 := n5_; have BK228 := n6_; have HB := n7_; have BK237 := n8_; have GW237 := n9_; have GE237 := n10_; have NB208_237 := n11_; have NB237_208 := n12_; have NB209_237 := n13_; have NB237_209 := n14_; have NB223_237 := n15_; have NB237_223 := n16_; have NB228_237 := n17_; have NB237_228 := n18_; clear n0_ n1_ n2_ n3_ n4_ n5_ n6_ n7_ n8_ n9_ n10_ n11_ n12_ n13_ n14_ n15_ n16_ n17_ n18_; clear hb hbox hg
        refine hK.out _ _ ⟨(blk_cell BK228.out 0).trans rfl, (blk_cell BK228.out 1).trans rfl, (blk_cell BK209.out 0).trans rfl, (blk_cell BK209.out 1).trans rfl, (blk_cell BK209.out 2).trans rfl⟩ (fun hHeld => ?_)
        clear hK K
        refine norm_ (a' := ?_) ?_ ?_
        rotate_left
        · show Act.put _ (some 9) _ = _
          simp only [Act.put, List.setIfInBounds_toArray, List.set_cons_zero, List.set_cons_succ, i64_w, i32_w]
          rfl
        refine one_ (i := 2) (N := some 34) #[true, true, true, false, false, false, false, true, false, false] rfl rfl (one_of HT_.out (by kernel_rfl)) (by decide) (fun K hK => ?_)
        refine goes_ Try.func21 (by kernel_rfl) rfl #[.agg #[.int .i64 a1_0, .int .i64 a1_1, .int .i64 a1_2]] (by rfl) rfl rfl zO3_15 ?_
        with_reducible refine (laws_toClue.calls a1_0 a1_1 a1_2 t229 t230 t231 _ A14.out).mono ?_
        rintro e w44 ⟨rfl, hb⟩
        refine ⟨_, rfl, ?_⟩
        have n0_ := Aside0.mk (Kd.R_below zO3_28 hb)
        have n1_ := Aside0.mk (Kd.R_below zO3_29 hb)
        have n2_ := Aside0.mk (Kd.R_below zO3_30 hb)
        have n3_ := Aside0.mk (blk_below (g := gb208) (o := .cells #[.int .i64 a0_0, .slice A0_1 l0_1.length c0_1] 24 (0, 0)) zO3_19 hb)
        have n4_ := Aside0.mk (blk_below (g := gb209) (o := .cells #[.int .i64 a1_0, .int .i64 a1_1, .int .i64 a1_2] 34 (0, 0)) zO3_20 hb)
        have n5_ := Aside0.mk (blk_below (g := gb223) (o := .cells #[.int .i64 t218, .slice Ao30 t219.length co30] 29 (0, 0)) zO3_21 hb)
        have n6_ := Aside0.mk (blk_below (g := gb228) (o := .cells #[.int .i64 t224, .slice Ao40 t225.length co40] 29 (0, 0)) zO3_22 hb)
        have n7_ := Aside0.mk (blk_below (g := gb237) (o := .cells #[.int .i64 0, .slice none 0 0] 29 (0, 0)) zO3_23 hb)
        have n8_ := Aside0.mk (below_step zO3_1 hb)
        clear HO214; clear HO221; clear HO227; clear BK208; clear BK209; clear BK223; clear BK228; clear BK237; clear HB; have HO214 := n0_; have HO221 := n1_; have HO227 := n2_; have BK208 := n3_; have BK209 := n4_; have BK223 := n5_; have BK228 := n6_; have BK237 := n7_; have HB := n8_; clear n0_ n1_ n2_ n3_ n4_ n5_ n6_ n7_ n8_
        (try clear hb)
        (try clear hb2)
        (try clear hk)
        (try clear hi)
        refine hK.out _ _ ⟨(blk_cell BK228.out 0).trans rfl, (blk_cell BK228.out 1).trans rfl, (blk_cell BK209.out 0).trans rfl, (blk_cell BK209.out 1).trans rfl, (blk_cell BK209.out 2).trans rfl⟩ (fun hHeld => ?_)
        clear hK K
        refine norm_ (a' := ?_) ?_ ?_
        rotate_left
        · show Act.put _ (some 34) _ = _
          simp only [Act.put, List.setIfInBounds_toArray, List.set_cons_zero, List.set_cons_succ, i64_w, i32_w]
          rfl
        refine one_ (i := 3) (N := some 35) #[true, true, true, true, false, false, false, true, false, false] rfl rfl (one_of HT_.out (by kernel_rfl)) (by decide) (fun K hK => ?_)
        refine goes_ Try.func22 (by kernel_rfl) rfl #[.agg #[.int .i64 t224, .slice Ao40 t225.length co40], .agg #[.int .i64 t229, .int .i64 t230, .int .i64 t231]] (by rfl) rfl rfl zO3_15 ?_
        with_reducible refine (impl_AddClue.calls k t224 _ _ t225 t229 t230 t231 t232 t233 t236 _ ?side1 ?side2 A15.out).mono ?_
        (case side1 => repeat (first | exact (Kd.R_reads' HO227.out).2.2 | (with_reducible refine Kd.C_alloc ?_ _) | (with_reducible refine Kd.C_drewN ?_ _) | (with_reducible refine Kd.C_drew ?_)))
        (case side2 => exact (Kd.R_reads' HO227.out).2.1)
        rintro e w45 ⟨v234, rfl, ho0, hb⟩
        refine ⟨_, rfl, ?_⟩
        have n0_ := Aside0.mk (Kd.R_elder' zO3_28 (Kd.R_base ho0) hb)
        have n1_ := Aside0.mk (Kd.R_elder' zO3_29 (Kd.R_base ho0) hb)
        have n2_ := Aside0.mk (Kd.R_elder' zO3_30 (Kd.R_base ho0) hb)
        have n3_ := Aside0.mk (Kd.R_lower (Kd.R_new' (Kd.R_new' (Kd.R_new' ho0 (Kd.R_lt zO3_28)) (Kd.R_lt zO3_29)) (Kd.R_lt zO3_30)) (below_size zO3_1))
        have n4_ := Aside0.mk (blk_below (g := gb208) (o := .cells #[.int .i64 a0_0, .slice A0_1 l0_1.length c0_1] 24 (0, 0)) zO3_19 hb)
        have n5_ := Aside0.mk (blk_below (g := gb209) (o := .cells #[.int .i64 a1_0, .int .i64 a1_1, .int .i64 a1_2] 34 (0, 0)) zO3_20 hb)
        have n6_ := Aside0.mk (blk_below (g := gb223) (o := .cells #[.int .i64 t218, .slice Ao30 t219.length co30] 29 (0, 0)) zO3_21 hb)
        have n7_ := Aside0.mk (blk_below (g := gb228) (o := .cells #[.int .i64 t224, .slice Ao40 t225.length co40] 29 (0, 0)) zO3_22 hb)
        have n8_ := Aside0.mk (blk_below (g := gb237) (o := .cells #[.int .i64 0, .slice none 0 0] 29 (0, 0)) zO3_23 hb)
        have n9_ := Aside0.mk (below_step zO3_1 hb)
        clear HO214; clear HO221; clear HO227; clear BK208; clear BK209; clear BK223; clear BK228; clear BK237; clear HB; have HO214 := n0_; have HO221 := n1_; have HO227 := n2_; have HO235 := n3_; have BK208 := n4_; have BK209 := n5_; have BK223 := n6_; have BK228 := n7_; have BK237 := n8_; have HB := n9_; clear n0_ n1_ n2_ n3_ n4_ n5_ n6_ n7_ n8_ n9_
        (try clear hb)
        (try clear hb2)
        (try clear hk)
        (try clear hi)
        (try clear ho0)
        refine hK.out _ _ ⟨(blk_cell BK228.out 0).trans rfl, (blk_cell BK228.out 1).trans rfl, (blk_cell BK209.out 0).trans rfl, (blk_cell BK209.out 1).trans rfl, (blk_cell BK209.out 2).trans rfl⟩ (fun hHeld => ?_)
        clear hK K
        refine norm_ (a' := ?_) ?_ ?_
        rotate_left
        · show Act.put _ (some 35) _ = _
          simp only [Act.put, List.setIfInBounds_toArray, List.set_cons_zero, List.set_cons_succ, i64_w, i32_w]
          rfl
        refine pure_ (i := 4) (N := some 31) (v := ?_) (a' := ?_) #[true, true, true, true, true, false, false, true, false, false] rfl rfl (any_of HT_.out (by kernel_rfl)) (fun _ _ _ h => h) (Or.inl ⟨by rfl, ?_⟩) ?_ ?_
        rotate_left
        · intro w'
          go_simp
          with_reducible rfl
        rotate_left
        · simp only [Act.put, List.setIfInBounds_toArray, List.set_cons_zero, List.set_cons_succ, i64_w, i32_w]
          rfl
        refine pure_ (i := 5) (N := some 36) (v := ?_) (a' := ?_) #[true, true, true, true, true, true, false, true, false, false] rfl rfl (any_of HT_.out (by kernel_rfl)) (fun _ _ _ h => h) (Or.inl ⟨by rfl, ?_⟩) ?_ ?_
        rotate_left
        · intro w'
          go_simp
          with_reducible rfl
        rotate_left
        · simp only [Act.put, List.setIfInBounds_toArray, List.set_cons_zero, List.set_cons_succ, i64_w, i32_w]
          rfl
        refine pure_ (i := 6) (N := some 37) (v := ?_) (a' := ?_) #[true, true, true, true, true, true, true, true, false, false] rfl rfl (any_of HT_.out (by kernel_rfl)) (fun _ _ _ h => h) (Or.inl ⟨by rfl, ?_⟩) ?_ ?_
        rotate_left
        · intro w'
          go_simp
          with_reducible rfl
        rotate_left
        · simp only [Act.put, List.setIfInBounds_toArray, List.set_cons_zero, List.set_cons_succ, i64_w, i32_w]
          rfl
        exact norm_ zO3_33 (hCont (v234, gb237) _ ⟨hHeld, zO3_12, zO3_13, zO3_14, zO3_11, zO3_19, zO3_20, zO3_21, zO3_22, zO3_23, GW237.out, GE237.out, NB208_237.out, NB237_208.out, NB209_237.out, NB237_209.out, NB223_237.out, NB237_223.out, NB228_237.out, NB237_228.out, zO3_1⟩)
    rintro ⟨v234, gb237⟩ w46 ⟨hS_, h0_, h1_, h2_, h3_, h4_, h5_, h6_, h7_, h8_, h9_, h10_, h11_, h12_, h13_, h14_, h15_, h16_, h17_, h18_, h19_⟩
    have n0_ : Aside0 (Kd.R k37 37 w46 w.heap.size (fun k_ => some k_ ≠ (.slice Ao30 t219.length co30 : Value).ownBlock ∧ some k_ ≠ (.slice Ao40 t225.length co40 : Value).ownBlock ∧ some k_ ≠ (v234 : Value).ownBlock) v213 t212) := ⟨h0_⟩
    have n1_ : Aside0 (Kd.R k37 37 w46 w.heap.size (fun k_ => some k_ ≠ (v213 : Value).ownBlock ∧ some k_ ≠ (.slice Ao40 t225.length co40 : Value).ownBlock ∧ some k_ ≠ (v234 : Value).ownBlock) (.slice Ao30 t219.length co30) t219) := ⟨h1_⟩
    have n2_ : Aside0 (Kd.R k37 37 w46 w.heap.size (fun k_ => some k_ ≠ (v213 : Value).ownBlock ∧ some k_ ≠ (.slice Ao30 t219.length co30 : Value).ownBlock ∧ some k_ ≠ (v234 : Value).ownBlock) (.slice Ao40 t225.length co40) t225) := ⟨h2_⟩
    have n3_ : Aside0 (Kd.R k37 37 w46 w.heap.size (fun k_ => some k_ ≠ (v213 : Value).ownBlock ∧ some k_ ≠ (.slice Ao30 t219.length co30 : Value).ownBlock ∧ some k_ ≠ (.slice Ao40 t225.length co40 : Value).ownBlock) v234 t233) := ⟨h3_⟩
    have n4_ : Aside0 (w46.heap[gb208]? = some (.cells #[.int .i64 a0_0, .slice A0_1 l0_1.length c0_1] 24 (0, 0))) := ⟨h4_⟩
    have n5_ : Aside0 (w46.heap[gb209]? = some (.cells #[.int .i64 a1_0, .int .i64 a1_1, .int .i64 a1_2] 34 (0, 0))) := ⟨h5_⟩
    have n6_ : Aside0 (w46.heap[gb223]? = some (.cells #[.int .i64 t218, .slice Ao30 t219.length co30] 29 (0, 0))) := ⟨h6_⟩
    have n7_ : Aside0 (w46.heap[gb228]? = some (.cells #[.int .i64 t224, .slice Ao40 t225.length co40] 29 (0, 0))) := ⟨h7_⟩
    have n8_ : Aside0 (w46.heap[gb237]? = some (.cells #[.int .i64 0, .slice none 0 0] 29 (0, 0))) := ⟨h8_⟩
    have n9_ : Aside0 (w.heap.size ≤ gb237) := ⟨h9_⟩
    have n10_ : Aside0 (w.heap.size ≤ gb237) := ⟨h10_⟩
    have n11_ : Aside0 (gb208 ≠ gb237) := ⟨h11_⟩
    have n12_ : Aside0 (gb237 ≠ gb208) := ⟨h12_⟩
    have n13_ : Aside0 (gb209 ≠ gb237) := ⟨h13_⟩
    have n14_ : Aside0 (gb237 ≠ gb209) := ⟨h14_⟩
    have n15_ : Aside0 (gb223 ≠ gb237) := ⟨h15_⟩
    have n16_ : Aside0 (gb237 ≠ gb223) := ⟨h16_⟩
    have n17_ : Aside0 (gb228 ≠ gb237) := ⟨h17_⟩
    have n18_ : Aside0 (gb237 ≠ gb228) := ⟨h18_⟩
    have n19_ : Aside0 (Below w.heap.size w w46) := ⟨h19_⟩
    clear HO214; clear HO221; clear HO227; clear BK208; clear BK209; clear BK223; clear BK228; clear HB; clear h0_ h1_ h2_ h3_ h4_ h5_ h6_ h7_ h8_ h9_ h10_ h11_ h12_ h13_ h14_ h15_ h16_ h17_ h18_ h19_; have HO214 := n0_; have HO221 := n1_; have HO227 := n2_; have HO235 := n3_; have BK208 := n4_; have BK209 := n5_; have BK223 := n6_; have BK228 := n7_; have BK237 := n8_; have GW237 := n9_; have GE237 := n10_; have NB208_237 := n11_; have NB237_208 := n12_; have NB209_237 := n13_; have NB237_209 := n14_; have NB223_237 := n15_; have NB237_223 := n16_; have NB228_237 := n17_; have NB237_228 := n18_; have HB := n19_; clear n0_ n1_ n2_ n3_ n4_ n5_ n6_ n7_ n8_ n9_ n10_ n11_ n12_ n13_ n14_ n15_ n16_ n17_ n18_ n19_
    have hHeld : w46.cell? ⟨gb228, 0, none⟩ = some (.int .i64 t224) ∧ w46.cell? ⟨gb228, 1, none⟩ = some (.slice Ao40 t225.length co40) ∧ w46.cell? ⟨gb209, 0, none⟩ = some (.int .i64 a1_0) ∧ w46.cell? ⟨gb209, 1, none⟩ = some (.int .i64 a1_1) ∧ w46.cell? ⟨gb209, 2, none⟩ = some (.int .i64 a1_2) := hS_
    obtain ⟨Ao48, co48, eo48⟩ := Kd.R_slice HO235.out
    (first | subst eo48 | (injection eo48 with f1_ f2_ f3_; have f4_ := f1_.symm; have f5_ := f3_.symm; clear f1_ f2_ f3_; subst f4_; subst f5_))
    refine norm_ (a' := ?_) ?_ ?_
    rotate_left
    · simp only [putAll, Act.put, List.setIfInBounds_toArray, List.set_cons_zero, List.set_cons_succ]
      rfl
    refine one_ (i := 8) (N := none) #[true, true, true, true, true, true, true, true, true, false] rfl rfl (one_of HT_.out (by kernel_rfl)) (by decide) (fun K hK => ?_)
    have hs47 : w46.cell? ⟨gb237, 0, none⟩ = some (.int .i64 0) := (blk_cell BK237.out 0).trans rfl
    have hfs47 := blk_frozen BK237.out 0
    have hns47_0 := NB208_237.out; have hns47_1 := NB209_237.out; have hns47_2 := NB223_237.out; have hns47_3 := NB228_237.out; have hms47_0 := NB237_208.out; have hms47_1 := NB237_209.out; have hms47_2 := NB237_223.out; have hms47_3 := NB237_228.out
    have hs49 : w46.cell? ⟨gb237, 1, none⟩ = some (.slice none 0 0) := (blk_cell BK237.out 1).trans rfl
    have hfs49 := blk_frozen BK237.out 1
    have hns49_0 := NB208_237.out; have hns49_1 := NB209_237.out; have hns49_2 := NB223_237.out; have hns49_3 := NB228_237.out; have hms49_0 := NB237_208.out; have hms49_1 := NB237_209.out; have hms49_2 := NB237_223.out; have hms49_3 := NB237_228.out
    refine skip_ (w1 := ?_) (by rfl) rfl ?_ ?_
    rotate_left
    · go_simp
      rfl
    refine hK.out _ _ ⟨((cell_far (p := ⟨gb237, _, none⟩) NB228_237.out _).trans (((cell_far (p := ⟨gb237, _, none⟩) NB228_237.out _).trans (hHeld.1)))), ((cell_far (p := ⟨gb237, _, none⟩) NB228_237.out _).trans (((cell_far (p := ⟨gb237, _, none⟩) NB228_237.out _).trans (hHeld.2.1)))), ((cell_far (p := ⟨gb237, _, none⟩) NB209_237.out _).trans (((cell_far (p := ⟨gb237, _, none⟩) NB209_237.out _).trans (hHeld.2.2.1)))), ((cell_far (p := ⟨gb237, _, none⟩) NB209_237.out _).trans (((cell_far (p := ⟨gb237, _, none⟩) NB209_237.out _).trans (hHeld.2.2.2.1)))), ((cell_far (p := ⟨gb237, _, none⟩) NB209_237.out _).trans (((cell_far (p := ⟨gb237, _, none⟩) NB209_237.out _).trans (hHeld.2.2.2.2))))⟩ (fun hHeld => ?_)
    clear hK K
    refine pure_ (i := 9) (N := some 10) (v := ?_) (a' := ?_) #[true, true, true, true, true, true, true, true, true, true] rfl rfl (any_of HT_.out (by kernel_rfl)) (fun _ _ _ h => h) (Or.inl ⟨by rfl, ?_⟩) ?_ ?_
    rotate_left
    · intro w'
      go_simp
      with_reducible rfl
    rotate_left
    · simp only [Act.put, List.setIfInBounds_toArray, List.set_cons_zero, List.set_cons_succ, i64_w, i32_w]
      rfl
    refine done_ (done_of HT_.out (by kernel_rfl)) ?_
    go_upto_region 8 with (fail)
    go_cut [46] (fun v46 wc => ∃ (kq : Nat) (x46_15 : Bool), v46 = .bool x46_15 ∧ Aside0 (laws_FnExactAddClue.j0 kq t222 t236 x46_15 a0_0 l0_1 a1_0 a1_1 a1_2 t218 t219 t224 t225 t232 t233 = some r) ∧ Aside0 (kq ≤ k) ∧ Aside0 (Kd.R k37 37 wc w.heap.size (fun k_ => some k_ ≠ ((.slice Ao40 t225.length co40) : Value).ownBlock ∧ some k_ ≠ ((.slice Ao48 t233.length co48) : Value).ownBlock) (.slice Ao30 t219.length co30) t219) ∧ Aside0 (Kd.R k37 37 wc w.heap.size (fun k_ => some k_ ≠ ((.slice Ao30 t219.length co30) : Value).ownBlock ∧ some k_ ≠ ((.slice Ao48 t233.length co48) : Value).ownBlock) (.slice Ao40 t225.length co40) t225) ∧ Aside0 (Kd.R k37 37 wc w.heap.size (fun k_ => some k_ ≠ ((.slice Ao30 t219.length co30) : Value).ownBlock ∧ some k_ ≠ ((.slice Ao40 t225.length co40) : Value).ownBlock) (.slice Ao48 t233.length co48) t233) ∧ Aside0 (wc.heap[gb208]? = some (.cells #[.int .i64 a0_0, (.slice A0_1 l0_1.length c0_1)] 24 (0, 0))) ∧ Aside0 (wc.heap[gb209]? = some (.cells #[.int .i64 a1_0, .int .i64 a1_1, .int .i64 a1_2] 34 (0, 0))) ∧ Aside0 (wc.heap[gb223]? = some (.cells #[.int .i64 t218, (.slice Ao30 t219.length co30)] 29 (0, 0))) ∧ Aside0 (wc.heap[gb228]? = some (.cells #[.int .i64 t224, (.slice Ao40 t225.length co40)] 29 (0, 0))) ∧ Aside0 (wc.heap[gb237]? = some (.cells #[.int .i64 t232, (.slice Ao48 t233.length co48)] 29 (0, 0))) ∧ Aside0 (Below w.heap.size w wc))
    case first =>
     as_aux_lemma =>
       have H := HC16.out; clear HC16; replace H := Option.bind_eq_some_iff.mp H
       obtain ⟨t238, A500, H⟩ := H
       replace H : (if t238 = true then (laws_FnExactAddClue.j0 k t222 t236 (t236 != t222) a0_0 l0_1 a1_0 a1_1 a1_2 t218 t219 t224 t225 t232 t233) else (laws_FnExactAddClue.j0 k t222 t236 true a0_0 l0_1 a1_0 a1_1 a1_2 t218 t219 t224 t225 t232 t233)) = some r := H
       have A50 := Aside0.mk A500
       clear A500
       by_cases c51 : t238 = true
       · subst c51
         have H1 : (laws_FnExactAddClue.j0 k t222 t236 (t236 != t222) a0_0 l0_1 a1_0 a1_1 a1_2 t218 t219 t224 t225 t232 t233) = some r := by rw [if_pos rfl] at H; exact H
         clear H; have H := H1; clear H1; have H' := Aside0.mk H; clear H; have hnb52 := NB237_208.out; have hnc52 := NB208_237.out; have hnb53 := NB237_209.out; have hnc53 := NB209_237.out; have hnb54 := NB237_223.out; have hnc54 := NB223_237.out; have hnb55 := NB237_228.out; have hnc55 := NB228_237.out
         have hcz56_0 : w46.cell? ⟨gb237, 0, none⟩ = some (.int .i64 0) := (blk_cell BK237.out 0).trans rfl
         have hcz56_1 : w46.cell? ⟨gb237, 1, none⟩ = some (.slice none 0 0) := (blk_cell BK237.out 1).trans rfl
         have hfz56_0 := blk_frozen BK237.out 0
         have hfz56_1 := blk_frozen BK237.out 1
         have hnb57 := NB223_208.out; have hnc57 := NB208_223.out; have hnb58 := NB223_209.out; have hnc58 := NB209_223.out; have hnb59 := NB223_228.out; have hnc59 := NB228_223.out
         have hcz60_0 : w46.cell? ⟨gb223, 0, none⟩ = some (.int .i64 t218) := (blk_cell BK223.out 0).trans rfl
         have hcz60_1 : w46.cell? ⟨gb223, 1, none⟩ = some (.slice Ao30 t219.length co30) := (blk_cell BK223.out 1).trans rfl
         have hfz60_0 := blk_frozen BK223.out 0
         have hfz60_1 := blk_frozen BK223.out 1
         go_wp2_with (first | ((with_reducible refine gate_callee (f := 19) rfl ?_); refine goesL_ (some 40) rfl rfl Try.func19 (by kernel_rfl) rfl #[.agg #[.int .i64 t232, .slice Ao48 t233.length co48], .agg #[.int .i64 t218, .slice Ao30 t219.length co30]] rfl zO3_15 ?_; (with_reducible refine (laws_eqPuzzle.calls k t232 _ _ t233 t218 _ _ t219 true _ ?side1 ?side2 ?side3 ?side4 A50.out).mono ?_); (case side1 => refine (Kd.R_reads' (e := 37) (base := w.heap.size) (ok := fun k_ => (some k_ ≠ (v213 : Value).ownBlock ∧ (some k_ ≠ (.slice Ao30 t219.length co30 : Value).ownBlock ∧ some k_ ≠ (.slice Ao40 t225.length co40 : Value).ownBlock))) (n := t233.length) (c := co48) ?_).2.2; exact (by (with_reducible repeat (first | apply Kd.R_alloc | apply Kd.R_drewN | apply Kd.R_drew)); exact (Kd.R_mono (Kd.R_far (p := ⟨gb237, 1, none⟩) (Kd.R_far (p := ⟨gb237, 0, none⟩) (Kd.R_types HO235.out BK237.out (by decide)) (fun _ hk => hk.2) (.int .i64 t232)) (fun _ hk => hk.2) (.slice Ao48 t233.length co48)) (fun _ h_ => h_.1)))); (case side2 => exact (Kd.R_reads' HO235.out).2.1); (case side3 => refine (Kd.R_reads' (e := 37) (base := w.heap.size) (ok := fun k_ => (some k_ ≠ (v213 : Value).ownBlock ∧ (some k_ ≠ (.slice Ao40 t225.length co40 : Value).ownBlock ∧ some k_ ≠ (.slice Ao48 t233.length co48 : Value).ownBlock))) (n := t219.length) (c := co30) ?_).2.2; exact (by (with_reducible repeat (first | apply Kd.R_alloc | apply Kd.R_drewN | apply Kd.R_drew)); exact (Kd.R_mono (Kd.R_far (p := ⟨gb237, 1, none⟩) (Kd.R_far (p := ⟨gb237, 0, none⟩) (Kd.R_types HO221.out BK237.out (by decide)) (fun _ hk => hk.2) (.int .i64 t232)) (fun _ hk => hk.2) (.slice Ao48 t233.length co48)) (fun _ h_ => h_.1)))); (case side4 => exact (Kd.R_reads' HO221.out).2.1); rintro e w61 ⟨rfl, hb⟩; refine ⟨_, rfl, ?_⟩; have n0_ := Aside0.mk (Kd.R_below (by (with_reducible repeat (first | apply Kd.R_alloc | apply Kd.R_drewN | apply Kd.R_drew)); exact (Kd.R_mono (Kd.R_far (p := ⟨gb237, 1, none⟩) (Kd.R_far (p := ⟨gb237, 0, none⟩) (Kd.R_types HO214.out BK237.out (by decide)) (fun _ hk => hk.2) (.int .i64 t232)) (fun _ hk => hk.2) (.slice Ao48 t233.length co48)) (fun _ h_ => h_.1))) hb); have n1_ := Aside0.mk (Kd.R_below (by (with_reducible repeat (first | apply Kd.R_alloc | apply Kd.R_drewN | apply Kd.R_drew)); exact (Kd.R_mono (Kd.R_far (p := ⟨gb237, 1, none⟩) (Kd.R_far (p := ⟨gb237, 0, none⟩) (Kd.R_types HO221.out BK237.out (by decide)) (fun _ hk => hk.2) (.int .i64 t232)) (fun _ hk => hk.2) (.slice Ao48 t233.length co48)) (fun _ h_ => h_.1))) hb); have n2_ := Aside0.mk (Kd.R_below (by (with_reducible repeat (first | apply Kd.R_alloc | apply Kd.R_drewN | apply Kd.R_drew)); exact (Kd.R_mono (Kd.R_far (p := ⟨gb237, 1, none⟩) (Kd.R_far (p := ⟨gb237, 0, none⟩) (Kd.R_types HO227.out BK237.out (by decide)) (fun _ hk => hk.2) (.int .i64 t232)) (fun _ hk => hk.2) (.slice Ao48 t233.length co48)) (fun _ h_ => h_.1))) hb); have n3_ := Aside0.mk (Kd.R_below (by (with_reducible repeat (first | apply Kd.R_alloc | apply Kd.R_drewN | apply Kd.R_drew)); exact (Kd.R_mono (Kd.R_far (p := ⟨gb237, 1, none⟩) (Kd.R_far (p := ⟨gb237, 0, none⟩) (Kd.R_types HO235.out BK237.out (by decide)) (fun _ hk => hk.2) (.int .i64 t232)) (fun _ hk => hk.2) (.slice Ao48 t233.length co48)) (fun _ h_ => h_.1))) hb); have n4_ := Aside0.mk (blk_below (g := gb208) (o := .cells #[.int .i64 a0_0, .slice A0_1 l0_1.length c0_1] 24 (0, 0)) (by (with_reducible repeat (first | refine blk_drewN ?_ _ | refine blk_drew ?_ | refine blk_alloc ?_ _)); refine blk_far ?_ NB208_237.out _; (with_reducible repeat (first | refine blk_drewN ?_ _ | refine blk_drew ?_ | refine blk_alloc ?_ _)); refine blk_far ?_ NB208_237.out _; (with_reducible repeat (first | refine blk_drewN ?_ _ | refine blk_drew ?_ | refine blk_alloc ?_ _)); exact BK208.out) hb); have n5_ := Aside0.mk (blk_below (g := gb209) (o := .cells #[.int .i64 a1_0, .int .i64 a1_1, .int .i64 a1_2] 34 (0, 0)) (by (with_reducible repeat (first | refine blk_drewN ?_ _ | refine blk_drew ?_ | refine blk_alloc ?_ _)); refine blk_far ?_ NB209_237.out _; (with_reducible repeat (first | refine blk_drewN ?_ _ | refine blk_drew ?_ | refine blk_alloc ?_ _)); refine blk_far ?_ NB209_237.out _; (with_reducible repeat (first | refine blk_drewN ?_ _ | refine blk_drew ?_ | refine blk_alloc ?_ _)); exact BK209.out) hb); have n6_ := Aside0.mk (blk_below (g := gb223) (o := .cells #[.int .i64 t218, .slice Ao30 t219.length co30] 29 (0, 0)) (by (with_reducible repeat (first | refine blk_drewN ?_ _ | refine blk_drew ?_ | refine blk_alloc ?_ _)); refine blk_far ?_ NB223_237.out _; (with_reducible repeat (first | refine blk_drewN ?_ _ | refine blk_drew ?_ | refine blk_alloc ?_ _)); refine blk_far ?_ NB223_237.out _; (with_reducible repeat (first | refine blk_drewN ?_ _ | refine blk_drew ?_ | refine blk_alloc ?_ _)); exact BK223.out) hb); have n7_ := Aside0.mk (blk_below (g := gb228) (o := .cells #[.int .i64 t224, .slice Ao40 t225.length co40] 29 (0, 0)) (by (with_reducible repeat (first | refine blk_drewN ?_ _ | refine blk_drew ?_ | refine blk_alloc ?_ _)); refine blk_far ?_ NB228_237.out _; (with_reducible repeat (first | refine blk_drewN ?_ _ | refine blk_drew ?_ | refine blk_alloc ?_ _)); refine blk_far ?_ NB228_237.out _; (with_reducible repeat (first | refine blk_drewN ?_ _ | refine blk_drew ?_ | refine blk_alloc ?_ _)); exact BK228.out) hb); have n8_ := Aside0.mk (blk_below (g := gb237) (o := .cells #[.int .i64 t232, .slice Ao48 t233.length co48] 29 (0, 0)) (by (with_reducible repeat (first | refine blk_drewN ?_ _ | refine blk_drew ?_ | refine blk_alloc ?_ _)); refine blk_put (cs := #[.int .i64 t232, .slice none 0 0]) ?_ 1 _ rfl; (with_reducible repeat (first | refine blk_drewN ?_ _ | refine blk_drew ?_ | refine blk_alloc ?_ _)); refine blk_put (cs := #[.int .i64 0, .slice none 0 0]) ?_ 0 _ rfl; (with_reducible repeat (first | refine blk_drewN ?_ _ | refine blk_drew ?_ | refine blk_alloc ?_ _)); exact BK237.out) hb); have n9_ := Aside0.mk (below_step zO3_1 hb); clear HO214; clear HO221; clear HO227; clear HO235; clear BK208; clear BK209; clear BK223; clear BK228; clear BK237; clear HB; have HO214 := n0_; have HO221 := n1_; have HO227 := n2_; have HO235 := n3_; have BK208 := n4_; have BK209 := n5_; have BK223 := n6_; have BK228 := n7_; have BK237 := n8_; have HB := n9_; clear n0_ n1_ n2_ n3_ n4_ n5_ n6_ n7_ n8_ n9_; (try clear hb); (try clear hb2); (try clear hk); (try clear hi)))
         go_meet
         case rel => exact ⟨_, ((t236 != t222)), zO3_34, H', ⟨by first | omega | exact Nat.le_refl _⟩, ⟨by (with_reducible repeat (first | apply Kd.R_alloc | apply Kd.R_drewN | apply Kd.R_drew)); exact Kd.R_mono HO221.out (fun _ hk => ⟨hk.2.1, hk.2.2⟩)⟩, ⟨by (with_reducible repeat (first | apply Kd.R_alloc | apply Kd.R_drewN | apply Kd.R_drew)); exact Kd.R_mono HO227.out (fun _ hk => ⟨hk.2.1, hk.2.2⟩)⟩, ⟨by (with_reducible repeat (first | apply Kd.R_alloc | apply Kd.R_drewN | apply Kd.R_drew)); exact Kd.R_mono HO235.out (fun _ hk => ⟨hk.2.1, hk.2.2⟩)⟩, ⟨by (with_reducible repeat (first | refine blk_drewN ?_ _ | refine blk_drew ?_ | refine blk_alloc ?_ _)); exact BK208.out⟩, ⟨by (with_reducible repeat (first | refine blk_drewN ?_ _ | refine blk_drew ?_ | refine blk_alloc ?_ _)); exact BK209.out⟩, ⟨by (with_reducible repeat (first | refine blk_drewN ?_ _ | refine blk_drew ?_ | refine blk_alloc ?_ _)); exact BK223.out⟩, ⟨by (with_reducible repeat (first | refine blk_drewN ?_ _ | refine blk_drew ?_ | refine blk_alloc ?_ _)); exact BK228.out⟩, ⟨by (with_reducible repeat (first | refine blk_drewN ?_ _ | refine blk_drew ?_ | refine blk_alloc ?_ _)); exact BK237.out⟩, ⟨by repeat (first | (with_reducible first | exact HB.out | apply below_alloc | apply pw_below_drewN | apply below_drew1 | refine below_set ?_ GE208.out | refine below_set ?_ GE209.out | refine below_set ?_ GE223.out | refine below_set ?_ GE228.out | refine below_set ?_ GE237.out) | exact HB.out)⟩⟩
       · replace c51 := Bool.eq_false_iff.mpr c51
         subst c51
         have H1 : (laws_FnExactAddClue.j0 k t222 t236 true a0_0 l0_1 a1_0 a1_1 a1_2 t218 t219 t224 t225 t232 t233) = some r := by rw [if_neg (show ¬ (false = true) by decide)] at H; exact H
         clear H; have H := H1; clear H1
         exact absurd (HR_.out.symm.trans (laws_FnExactAddClue.j0_true _ _ _ _ _ _ _ _ _ _ _ _ _ _ _ H)) (by decide)
    case rest =>
     as_aux_lemma =>
       clear HC16; (try clear c1); (try clear c2); (try clear p2); (try clear c5); (try clear c6); (try clear c19); (try clear c21); (try clear c22); (try clear c51); (try clear c52); (try clear c53); (try clear c54); (try clear c55); (try clear c57); (try clear c58); (try clear c59); (try clear c62); (try clear c63); (try clear c64); (try clear c65); (try clear c67); (try clear c68); (try clear c69); (try clear hcz56_0); (try clear hcz56_1); (try clear hcz60_0); (try clear hcz60_1); (try clear hcz66_0); (try clear hcz66_1); (try clear hcz70_0); (try clear hcz70_1); (try clear hfz56_0); (try clear hfz56_1); (try clear hfz60_0); (try clear hfz60_1); (try clear hfz66_0); (try clear hfz66_1); (try clear hfz70_0); (try clear hfz70_1)
       obtain ⟨kq, x46_15, rfl, HA, HJ15, HO_224001, HO_229001, HO_238001, BK208, BK209, BK223, BK228, BK237, HB⟩ := hcut
       cases kq with
       | zero => exact absurd HA.out (by simp [laws_FnExactAddClue.j0])
       | succ kj15 =>
         have H := HA.out; clear HA
         simp only [laws_FnExactAddClue.j0] at H
         by_cases c72 : x46_15 = true
         · subst c72
           have H1 : (some false) = some r := by rw [if_pos rfl] at H; exact H
           clear H; have H := H1; clear H1
           obtain rfl := Option.some.inj H
           exact absurd HR_.out (by decide)
         · replace c72 := Bool.eq_false_iff.mpr c72
           subst c72
           have H1 : ((laws_toPuzzle.f kj15 a0_0 l0_1).bind fun bt239 => ((laws_eqPuzzle.f kj15 t224 t225 bt239.1 bt239.2).bind fun t243 => (if t243 = true then ((laws_markPuzzle.f kj15 t224 t225 1).bind fun bt244 => (if bt244.1 < 0 then (laws_FnExactAddClue.j1 kj15 t222 true a0_0 l0_1 a1_0 a1_1 a1_2 t218 t219 t232 t233) else ((laws_eqPuzzle.f kj15 t232 t233 t218 t219).bind fun t246 => (if t246 = true then (laws_FnExactAddClue.j1 kj15 t222 (t236 != t222) a0_0 l0_1 a1_0 a1_1 a1_2 t218 t219 t232 t233) else (laws_FnExactAddClue.j1 kj15 t222 true a0_0 l0_1 a1_0 a1_1 a1_2 t218 t219 t232 t233))))) else (some false)))) = some r := by rw [if_neg (show ¬ (false = true) by decide)] at H; exact H
           clear H; have H := H1; clear H1; replace H := Option.bind_eq_some_iff.mp H
           obtain ⟨⟨t239, t240⟩, A730, H⟩ := H
           replace H : ((laws_eqPuzzle.f kj15 t224 t225 t239 t240).bind fun t243 => (if t243 = true then ((laws_markPuzzle.f kj15 t224 t225 1).bind fun bt244 => (if bt244.1 < 0 then (laws_FnExactAddClue.j1 kj15 t222 true a0_0 l0_1 a1_0 a1_1 a1_2 t218 t219 t232 t233) else ((laws_eqPuzzle.f kj15 t232 t233 t218 t219).bind fun t246 => (if t246 = true then (laws_FnExactAddClue.j1 kj15 t222 (t236 != t222) a0_0 l0_1 a1_0 a1_1 a1_2 t218 t219 t232 t233) else (laws_FnExactAddClue.j1 kj15 t222 true a0_0 l0_1 a1_0 a1_1 a1_2 t218 t219 t232 t233))))) else (some false))) = some r := H
           have A73 := Aside0.mk A730
           clear A730; replace H := Option.bind_eq_some_iff.mp H
           obtain ⟨t243, A740, H⟩ := H
           replace H : (if t243 = true then ((laws_markPuzzle.f kj15 t224 t225 1).bind fun bt244 => (if bt244.1 < 0 then (laws_FnExactAddClue.j1 kj15 t222 true a0_0 l0_1 a1_0 a1_1 a1_2 t218 t219 t232 t233) else ((laws_eqPuzzle.f kj15 t232 t233 t218 t219).bind fun t246 => (if t246 = true then (laws_FnExactAddClue.j1 kj15 t222 (t236 != t222) a0_0 l0_1 a1_0 a1_1 a1_2 t218 t219 t232 t233) else (laws_FnExactAddClue.j1 kj15 t222 true a0_0 l0_1 a1_0 a1_1 a1_2 t218 t219 t232 t233))))) else (some false)) = some r := H
           have A74 := Aside0.mk A740
           clear A740
           by_cases c75 : t243 = true
           · subst c75
             have H1 : ((laws_markPuzzle.f kj15 t224 t225 1).bind fun bt244 => (if bt244.1 < 0 then (laws_FnExactAddClue.j1 kj15 t222 true a0_0 l0_1 a1_0 a1_1 a1_2 t218 t219 t232 t233) else ((laws_eqPuzzle.f kj15 t232 t233 t218 t219).bind fun t246 => (if t246 = true then (laws_FnExactAddClue.j1 kj15 t222 (t236 != t222) a0_0 l0_1 a1_0 a1_1 a1_2 t218 t219 t232 t233) else (laws_FnExactAddClue.j1 kj15 t222 true a0_0 l0_1 a1_0 a1_1 a1_2 t218 t219 t232 t233))))) = some r := by rw [if_pos rfl] at H; exact H
             clear H; have H := H1; clear H1; replace H := Option.bind_eq_some_iff.mp H
             obtain ⟨⟨t244, t245⟩, A760, H⟩ := H
             replace H : (if t244 < 0 then (laws_FnExactAddClue.j1 kj15 t222 true a0_0 l0_1 a1_0 a1_1 a1_2 t218 t219 t232 t233) else ((laws_eqPuzzle.f kj15 t232 t233 t218 t219).bind fun t246 => (if t246 = true then (laws_FnExactAddClue.j1 kj15 t222 (t236 != t222) a0_0 l0_1 a1_0 a1_1 a1_2 t218 t219 t232 t233) else (laws_FnExactAddClue.j1 kj15 t222 true a0_0 l0_1 a1_0 a1_1 a1_2 t218 t219 t232 t233)))) = some r := H
             have A76 := Aside0.mk A760
             clear A760
             have HC77 := Aside0.mk H
             clear H
             try go_wp2
             have n0_ := Aside0.mk (Kd.R_drew HO_224001.out)
             have n1_ := Aside0.mk (Kd.R_drew HO_229001.out)
             have n2_ := Aside0.mk (Kd.R_drew HO_238001.out)
             have n3_ := Aside0.mk (blk_drew BK208.out)
             have n4_ := Aside0.mk (blk_drew BK209.out)
             have n5_ := Aside0.mk (blk_drew BK223.out)
             have n6_ := Aside0.mk (blk_drew BK228.out)
             have n7_ := Aside0.mk (blk_drew BK237.out)
             have n8_ := Aside0.mk (below_drew1 HB.out)
             clear HO_224001; clear HO_229001; clear HO_238001; clear BK208; clear BK209; clear BK223; clear BK228; clear BK237; clear HB; have HO_224001 := n0_; have HO_229001 := n1_; have HO_238001 := n2_; have BK208 := n3_; have BK209 := n4_; have BK223 := n5_; have BK228 := n6_; have BK237 := n7_; have HB := n8_; clear n0_ n1_ n2_ n3_ n4_ n5_ n6_ n7_ n8_
             refine start_ (n := 5) (S := fun w' => w'.cell? ⟨gb228, 0, none⟩ = some (.int .i64 t224) ∧ w'.cell? ⟨gb228, 1, none⟩ = some (.slice Ao40 t225.length co40) ∧ w'.cell? ⟨gb208, 0, none⟩ = some (.int .i64 a0_0) ∧ w'.cell? ⟨gb208, 1, none⟩ = some (.slice A0_1 l0_1.length c0_1)) (ds := []) #[false, false, false, false, false] (by kernel_rfl) rfl rfl ⟨(blk_cell BK228.out 0).trans rfl, (blk_cell BK228.out 1).trans rfl, (blk_cell BK208.out 0).trans rfl, (blk_cell BK208.out 1).trans rfl⟩ (fun hHeld => ?_)
             generalize wc.drew = w78 at HO_224001 HO_229001 HO_238001 BK208 BK209 BK223 BK228 BK237 HB hHeld ⊢
             refine take_ (i := 0) (N := some 47) (v := ?_) (a' := ?_) #[true, false, false, false, false] rfl rfl (by kernel_rfl) (fun _ _ _ h => h) (Or.inl ⟨by rfl, ?_⟩) hHeld ?_ ?_
             rotate_left
             · rintro w' ⟨s0, s1, s2, s3⟩
               go_simp
               with_reducible rfl
             rotate_left
             · simp only [Act.put, List.setIfInBounds_toArray, List.set_cons_zero, List.set_cons_succ, i64_w, i32_w]
               rfl
             refine take_ (i := 1) (N := some 48) (v := ?_) (a' := ?_) #[true, true, false, false, false] rfl rfl (by kernel_rfl) (fun _ _ _ h => h) (Or.inl ⟨by rfl, ?_⟩) hHeld ?_ ?_
             rotate_left
             · rintro w' ⟨s0, s1, s2, s3⟩
               go_simp
               with_reducible rfl
             rotate_left
             · simp only [Act.put, List.setIfInBounds_toArray, List.set_cons_zero, List.set_cons_succ, i64_w, i32_w]
               rfl
             refine one_ (i := 2) (N := some 49) #[true, true, true, false, false] rfl rfl (by kernel_rfl) (by decide) (fun K hK => ?_)
             refine goes_ Try.func17 (by kernel_rfl) rfl #[.agg #[.int .i64 a0_0, .slice A0_1 l0_1.length c0_1]] (by rfl) rfl rfl zO3_15 ?_
             with_reducible refine (laws_toPuzzle.calls kj15 a0_0 _ _ l0_1 t239 t240 _ ?side1 ?side2 A73.out).mono ?_
             (case side1 => repeat (first | exact (Kd.C_below HR0_1.out HB.out) | (with_reducible refine Kd.C_alloc ?_ _) | (with_reducible refine Kd.C_drewN ?_ _) | (with_reducible refine Kd.C_drew ?_)))
             (case side2 => exact HC0_1.out)
             rintro e w79 ⟨v241, rfl, ho0, hb⟩
             refine ⟨_, rfl, ?_⟩
             have n0_ := Aside0.mk (Kd.R_elder' zO3_25 (Kd.R_base ho0) hb)
             have n1_ := Aside0.mk (Kd.R_elder' zO3_26 (Kd.R_base ho0) hb)
             have n2_ := Aside0.mk (Kd.R_elder' zO3_27 (Kd.R_base ho0) hb)
             have n3_ := Aside0.mk (Kd.R_lower (Kd.R_new' (Kd.R_new' (Kd.R_new' ho0 (Kd.R_lt zO3_25)) (Kd.R_lt zO3_26)) (Kd.R_lt zO3_27)) (below_size zO3_1))
             have n4_ := Aside0.mk (blk_below (g := gb208) (o := .cells #[.int .i64 a0_0, .slice A0_1 l0_1.length c0_1] 24 (0, 0)) zO3_19 hb)
             have n5_ := Aside0.mk (blk_below (g := gb209) (o := .cells #[.int .i64 a1_0, .int .i64 a1_1, .int .i64 a1_2] 34 (0, 0)) zO3_20 hb)
             have n6_ := Aside0.mk (blk_below (g := gb223) (o := .cells #[.int .i64 t218, .slice Ao30 t219.length co30] 29 (0, 0)) zO3_21 hb)
             have n7_ := Aside0.mk (blk_below (g := gb228) (o := .cells #[.int .i64 t224, .slice Ao40 t225.length co40] 29 (0, 0)) zO3_22 hb)
             have n8_ := Aside0.mk (blk_below (g := gb237) (o := .cells #[.int .i64 t232, .slice Ao48 t233.length co48] 29 (0, 0)) zO3_23 hb)
             have n9_ := Aside0.mk (below_step zO3_1 hb)
             clear HO_224001; clear HO_229001; clear HO_238001; clear BK208; clear BK209; clear BK223; clear BK228; clear BK237; clear HB; have HO_224001 := n0_; have HO_229001 := n1_; have HO_238001 := n2_; have HO242 := n3_; have BK208 := n4_; have BK209 := n5_; have BK223 := n6_; have BK228 := n7_; have BK237 := n8_; have HB := n9_; clear n0_ n1_ n2_ n3_ n4_ n5_ n6_ n7_ n8_ n9_
             (try clear hb)
             (try clear hb2)
             (try clear hk)
             (try clear hi)
             (try clear ho0)
             obtain ⟨Ao80, co80, eo80⟩ := Kd.R_slice HO242.out
             (first | subst eo80 | (injection eo80 with f1_ f2_ f3_; have f4_ := f1_.symm; have f5_ := f3_.symm; clear f1_ f2_ f3_; subst f4_; subst f5_))
             refine hK.out _ _ ⟨(blk_cell BK228.out 0).trans rfl, (blk_cell BK228.out 1).trans rfl, (blk_cell BK208.out 0).trans rfl, (blk_cell BK208.out 1).trans rfl⟩ (fun hHeld => ?_)
             clear hK K
             refine norm_ (a' := ?_) ?_ ?_
             rotate_left
             · show Act.put _ (some 49) _ = _
               simp only [Act.put, List.setIfInBounds_toArray, List.set_cons_zero, List.set_cons_succ, i64_w, i32_w]
               rfl
             refine one_ (i := 3) (N := some 50) #[true, true, true, true, false] rfl rfl (by kernel_rfl) (by decide) (fun K hK => ?_)
             refine goes_ Try.func19 (by kernel_rfl) rfl #[.agg #[.int .i64 t224, .slice Ao40 t225.length co40], .agg #[.int .i64 t239, .slice Ao80 t240.length co80]] (by rfl) rfl rfl zO3_15 ?_
             with_reducible refine (laws_eqPuzzle.calls kj15 t224 _ _ t225 t239 _ _ t240 true _ ?side1 ?side2 ?side3 ?side4 A74.out).mono ?_
             (case side1 => repeat (first | exact (Kd.R_reads' HO_229001.out).2.2 | (with_reducible refine Kd.C_alloc ?_ _) | (with_reducible refine Kd.C_drewN ?_ _) | (with_reducible refine Kd.C_drew ?_)))
             (case side2 => exact (Kd.R_reads' HO_229001.out).2.1)
             (case side3 => repeat (first | exact (Kd.R_reads' HO242.out).2.2 | (with_reducible refine Kd.C_alloc ?_ _) | (with_reducible refine Kd.C_drewN ?_ _) | (with_reducible refine Kd.C_drew ?_)))
             (case side4 => exact (Kd.R_reads' HO242.out).2.1)
             rintro e w81 ⟨rfl, hb⟩
             refine ⟨_, rfl, ?_⟩
             have n0_ := Aside0.mk (Kd.R_below zO3_25 hb)
             have n1_ := Aside0.mk (Kd.R_below zO3_26 hb)
             have n2_ := Aside0.mk (Kd.R_below zO3_27 hb)
             have n3_ := Aside0.mk (Kd.R_below zO3_31 hb)
             have n4_ := Aside0.mk (blk_below (g := gb208) (o := .cells #[.int .i64 a0_0, .slice A0_1 l0_1.length c0_1] 24 (0, 0)) zO3_19 hb)
             have n5_ := Aside0.mk (blk_below (g := gb209) (o := .cells #[.int .i64 a1_0, .int .i64 a1_1, .int .i64 a1_2] 34 (0, 0)) zO3_20 hb)
             have n6_ := Aside0.mk (blk_below (g := gb223) (o := .cells #[.int .i64 t218, .slice Ao30 t219.length co30] 29 (0, 0)) zO3_21 hb)
             have n7_ := Aside0.mk (blk_below (g := gb228) (o := .cells #[.int .i64 t224, .slice Ao40 t225.length co40] 29 (0, 0)) zO3_22 hb)
             have n8_ := Aside0.mk (blk_below (g := gb237) (o := .cells #[.int .i64 t232, .slice Ao48 t233.length co48] 29 (0, 0)) zO3_23 hb)
             have n9_ := Aside0.mk (below_step zO3_1 hb)
             clear HO_224001; clear HO_229001; clear HO_238001; clear HO242; clear BK208; clear BK209; clear BK223; clear BK228; clear BK237; clear HB; have HO_224001 := n0_; have HO_229001 := n1_; have HO_238001 := n2_; have HO242 := n3_; have BK208 := n4_; have BK209 := n5_; have BK223 := n6_; have BK228 := n7_; have BK237 := n8_; have HB := n9_; clear n0_ n1_ n2_ n3_ n4_ n5_ n6_ n7_ n8_ n9_
             (try clear hb)
             (try clear hb2)
             (try clear hk)
             (try clear hi)
             refine hK.out _ _ ⟨(blk_cell BK228.out 0).trans rfl, (blk_cell BK228.out 1).trans rfl, (blk_cell BK208.out 0).trans rfl, (blk_cell BK208.out 1).trans rfl⟩ (fun hHeld => ?_)
             clear hK K
             refine norm_ (a' := ?_) ?_ ?_
             rotate_left
             · show Act.put _ (some 50) _ = _
               simp only [Act.put, List.setIfInBounds_toArray, List.set_cons_zero, List.set_cons_succ, i64_w, i32_w]
               rfl
             refine pure_ (i := 4) (N := some 51) (v := ?_) (a' := ?_) #[true, true, true, true, true] rfl rfl (by kernel_rfl) (fun _ _ _ h => h) (Or.inl ⟨by rfl, ?_⟩) ?_ ?_
             rotate_left
             · intro w'
               go_simp
               with_reducible rfl
             rotate_left
             · simp only [Act.put, List.setIfInBounds_toArray, List.set_cons_zero, List.set_cons_succ, i64_w, i32_w]
               rfl
             refine done_ (by kernel_rfl) ?_
             have hnb82 := NB228_208.out; have hnc82 := NB208_228.out; have hnb83 := NB228_209.out; have hnc83 := NB209_228.out; have hnb84 := NB228_223.out; have hnc84 := NB223_228.out; have hnb85 := NB228_237.out; have hnc85 := NB237_228.out
             have hcz86_0 : w81.cell? ⟨gb228, 0, none⟩ = some (.int .i64 t224) := (blk_cell BK228.out 0).trans rfl
             have hcz86_1 : w81.cell? ⟨gb228, 1, none⟩ = some (.slice Ao40 t225.length co40) := (blk_cell BK228.out 1).trans rfl
             have hfz86_0 := blk_frozen BK228.out 0
             have hfz86_1 := blk_frozen BK228.out 1
             go_upto_region 14 with (first | ((with_reducible refine gate_callee (f := 23) rfl ?_); refine goesL_ (some 54) rfl rfl Try.func23 (by kernel_rfl) rfl #[.agg #[.int .i64 t224, .slice Ao40 t225.length co40], .int .i64 1] rfl zO3_15 ?_; (with_reducible refine (laws_markPuzzle.calls kj15 t224 (fun k_ => some k_ = (.slice Ao40 t225.length co40 : Value).ownBlock) (.slice Ao40 t225.length co40) t225 1 t244 t245 w _ ?side1 ?side2 A76.out).mono ?_); (case side1 => repeat (first | (with_reducible first | exact HB.out | apply below_alloc | apply pw_below_drewN | apply below_drew1 | refine below_set ?_ GE208.out | refine below_set ?_ GE209.out | refine below_set ?_ GE223.out | refine below_set ?_ GE228.out | refine below_set ?_ GE237.out) | exact HB.out)); (case side2 => exact Kd.R_tight rfl HO_229001.out); rintro e w87 ⟨rfl, hy0, hb, hkp⟩; refine ⟨_, rfl, ?_⟩; have n0_ := Aside0.mk (Kd.R_mono (ok' := fun k_ => some k_ ≠ (.slice Ao40 t225.length co40 : Value).ownBlock ∧ some k_ ≠ (.slice Ao48 t233.length co48 : Value).ownBlock ∧ some k_ ≠ (.slice Ao80 t240.length co80 : Value).ownBlock) (Kd.R_keptB (HO_224001.out) hkp (fun k_ hk_ hs_ => (hk_.1.1) hs_)) (fun k_ hk_ => ⟨hk_.1.1.1, hk_.1.1.2, hk_.1.2⟩)); have n1_ := Aside0.mk (Kd.R_reok rfl hy0 (fun k_ e_ => HO_229001.out.1 k_ e_)); have n2_ := Aside0.mk (Kd.R_mono (ok' := fun k_ => some k_ ≠ (.slice Ao30 t219.length co30 : Value).ownBlock ∧ some k_ ≠ (.slice Ao40 t225.length co40 : Value).ownBlock ∧ some k_ ≠ (.slice Ao80 t240.length co80 : Value).ownBlock) (Kd.R_keptB (HO_238001.out) hkp (fun k_ hk_ hs_ => (hk_.1.2) hs_)) (fun k_ hk_ => ⟨hk_.1.1.1, hk_.1.1.2, hk_.1.2⟩)); have n3_ := Aside0.mk (blk_kept zO3_19 hkp (fun hs_ => (fun e_ => (Kd.R_ne HO_229001.out BK208.out (by decide)) e_) hs_)); have n4_ := Aside0.mk (blk_kept zO3_20 hkp (fun hs_ => (fun e_ => (Kd.R_ne HO_229001.out BK209.out (by decide)) e_) hs_)); have n5_ := Aside0.mk (blk_kept zO3_21 hkp (fun hs_ => (fun e_ => (Kd.R_ne HO_229001.out BK223.out (by decide)) e_) hs_)); have n6_ := Aside0.mk (blk_kept zO3_22 hkp (fun hs_ => (fun e_ => (Kd.R_ne HO_229001.out BK228.out (by decide)) e_) hs_)); have n7_ := Aside0.mk (blk_kept zO3_23 hkp (fun hs_ => (fun e_ => (Kd.R_ne HO_229001.out BK237.out (by decide)) e_) hs_)); have n8_ := Aside0.mk (Kd.R_mono (ok' := fun k_ => some k_ ≠ (.slice Ao30 t219.length co30 : Value).ownBlock ∧ some k_ ≠ (.slice Ao40 t225.length co40 : Value).ownBlock ∧ some k_ ≠ (.slice Ao48 t233.length co48 : Value).ownBlock) (Kd.R_keptB (HO242.out) hkp (fun k_ hk_ hs_ => (hk_.1.2) hs_)) (fun k_ hk_ => ⟨hk_.1.1.1.2, hk_.1.1.2, hk_.1.2⟩)); have n9_ := Aside0.mk (hb); clear HO_224001; clear HO_229001; clear HO_238001; clear BK208; clear BK209; clear BK223; clear BK228; clear BK237; clear HO242; clear HB; have HO_224001 := n0_; have HO_229001 := n1_; have HO_238001 := n2_; have BK208 := n3_; have BK209 := n4_; have BK223 := n5_; have BK228 := n6_; have BK237 := n7_; have HO242 := n8_; have HB := n9_; clear n0_ n1_ n2_ n3_ n4_ n5_ n6_ n7_ n8_ n9_; (try clear hb); (try clear hkp); (try clear hy0)))
             (try simp only [Act.put, List.setIfInBounds_toArray, List.set_cons_zero, List.set_cons_succ])
             go_cut [67] (fun v67 wc => ∃ (kq : Nat) (x67_76 : Bool), v67 = .bool x67_76 ∧ Aside0 (laws_FnExactAddClue.j1 kq t222 x67_76 a0_0 l0_1 a1_0 a1_1 a1_2 t218 t219 t232 t233 = some r) ∧ Aside0 (kq ≤ kj15) ∧ Aside0 (Kd.R k37 37 wc w.heap.size (fun k_ => some k_ ≠ ((.slice Ao40 t225.length co40) : Value).ownBlock ∧ some k_ ≠ ((.slice Ao48 t233.length co48) : Value).ownBlock) (.slice Ao30 t219.length co30) t219) ∧ Aside0 (Kd.R k37 37 wc w.heap.size (fun k_ => some k_ ≠ ((.slice Ao30 t219.length co30) : Value).ownBlock ∧ some k_ ≠ ((.slice Ao48 t233.length co48) : Value).ownBlock) (.slice Ao40 t225.length co40) t245) ∧ Aside0 (Kd.R k37 37 wc w.heap.size (fun k_ => some k_ ≠ ((.slice Ao30 t219.length co30) : Value).ownBlock ∧ some k_ ≠ ((.slice Ao40 t225.length co40) : Value).ownBlock) (.slice Ao48 t233.length co48) t233) ∧ Aside0 (wc.heap[gb208]? = some (.cells #[.int .i64 a0_0, (.slice A0_1 l0_1.length c0_1)] 24 (0, 0))) ∧ Aside0 (wc.heap[gb209]? = some (.cells #[.int .i64 a1_0, .int .i64 a1_1, .int .i64 a1_2] 34 (0, 0))) ∧ Aside0 (wc.heap[gb223]? = some (.cells #[.int .i64 t218, (.slice Ao30 t219.length co30)] 29 (0, 0))) ∧ Aside0 (wc.heap[gb228]? = some (.cells #[.int .i64 t224, (.slice Ao40 t225.length co40)] 29 (0, 0))) ∧ Aside0 (wc.heap[gb237]? = some (.cells #[.int .i64 t232, (.slice Ao48 t233.length co48)] 29 (0, 0))) ∧ Aside0 (Below w.heap.size w wc))
             case first =>
              as_aux_lemma =>
                have H := HC77.out; clear HC77
                by_cases c88 : t244 < 0
                · rw [if_pos c88] at H
                  have c88b0 : decide (t244 < 0) = true := decide_eq_true c88; clear c88
                  (first | rw [c88b0] | (simp only [i64_w, i32_w]; rw [c88b0]) | skip)
                  exact absurd (HR_.out.symm.trans (laws_FnExactAddClue.j1_true _ _ _ _ _ _ _ _ _ _ _ _ H)) (by decide)
                · rw [if_neg c88] at H
                  have c88b0 : decide (t244 < 0) = false := decide_eq_false c88; clear c88
                  (first | rw [c88b0] | (simp only [i64_w, i32_w]; rw [c88b0]) | skip)
                  replace H := Option.bind_eq_some_iff.mp H
                  obtain ⟨t246, A890, H⟩ := H
                  replace H : (if t246 = true then (laws_FnExactAddClue.j1 kj15 t222 (t236 != t222) a0_0 l0_1 a1_0 a1_1 a1_2 t218 t219 t232 t233) else (laws_FnExactAddClue.j1 kj15 t222 true a0_0 l0_1 a1_0 a1_1 a1_2 t218 t219 t232 t233)) = some r := H
                  have A89 := Aside0.mk A890
                  clear A890
                  by_cases c90 : t246 = true
                  · subst c90
                    have H1 : (laws_FnExactAddClue.j1 kj15 t222 (t236 != t222) a0_0 l0_1 a1_0 a1_1 a1_2 t218 t219 t232 t233) = some r := by rw [if_pos rfl] at H; exact H
                    clear H; have H := H1; clear H1; have H' := Aside0.mk H; clear H; have hnb91 := NB237_208.out; have hnc91 := NB208_237.out; have hnb92 := NB237_209.out; have hnc92 := NB209_237.out; have hnb93 := NB237_223.out; have hnc93 := NB223_237.out; have hnb94 := NB237_228.out; have hnc94 := NB228_237.out
                    have hcz95_0 : w87.cell? ⟨gb237, 0, none⟩ = some (.int .i64 t232) := (blk_cell BK237.out 0).trans rfl
                    have hcz95_1 : w87.cell? ⟨gb237, 1, none⟩ = some (.slice Ao48 t233.length co48) := (blk_cell BK237.out 1).trans rfl
                    have hfz95_0 := blk_frozen BK237.out 0
                    have hfz95_1 := blk_frozen BK237.out 1
                    have hnb96 := NB223_208.out; have hnc96 := NB208_223.out; have hnb97 := NB223_209.out; have hnc97 := NB209_223.out; have hnb98 := NB223_228.out; have hnc98 := NB228_223.out
                    have hcz99_0 : w87.cell? ⟨gb223, 0, none⟩ = some (.int .i64 t218) := (blk_cell BK223.out 0).trans rfl
                    have hcz99_1 : w87.cell? ⟨gb223, 1, none⟩ = some (.slice Ao30 t219.length co30) := (blk_cell BK223.out 1).trans rfl
                    have hfz99_0 := blk_frozen BK223.out 0
                    have hfz99_1 := blk_frozen BK223.out 1
                    go_wp2_with (first | (go_at_call 19; (with_reducible refine (laws_eqPuzzle.calls kj15 t232 _ _ t233 t218 _ _ t219 true _ ?side1 ?side2 ?side3 ?side4 A89.out).mono ?_); (case side1 => repeat (first | exact (Kd.R_reads' HO_238001.out).2.2 | (with_reducible refine Kd.C_alloc ?_ _) | (with_reducible refine Kd.C_drewN ?_ _) | (with_reducible refine Kd.C_drew ?_))); (case side2 => exact (Kd.R_reads' HO_238001.out).2.1); (case side3 => repeat (first | exact (Kd.R_reads' HO_224001.out).2.2 | (with_reducible refine Kd.C_alloc ?_ _) | (with_reducible refine Kd.C_drewN ?_ _) | (with_reducible refine Kd.C_drew ?_))); (case side4 => exact (Kd.R_reads' HO_224001.out).2.1); rintro e w100 ⟨rfl, hb⟩; have n0_ := Aside0.mk (Kd.R_below zO3_25 hb); have n1_ := Aside0.mk (Kd.R_below zO3_26 hb); have n2_ := Aside0.mk (Kd.R_below zO3_27 hb); have n3_ := Aside0.mk (Kd.R_below zO3_31 hb); have n4_ := Aside0.mk (blk_below (g := gb208) (o := .cells #[.int .i64 a0_0, .slice A0_1 l0_1.length c0_1] 24 (0, 0)) zO3_19 hb); have n5_ := Aside0.mk (blk_below (g := gb209) (o := .cells #[.int .i64 a1_0, .int .i64 a1_1, .int .i64 a1_2] 34 (0, 0)) zO3_20 hb); have n6_ := Aside0.mk (blk_below (g := gb223) (o := .cells #[.int .i64 t218, .slice Ao30 t219.length co30] 29 (0, 0)) zO3_21 hb); have n7_ := Aside0.mk (blk_below (g := gb228) (o := .cells #[.int .i64 t224, .slice Ao40 t225.length co40] 29 (0, 0)) zO3_22 hb); have n8_ := Aside0.mk (blk_below (g := gb237) (o := .cells #[.int .i64 t232, .slice Ao48 t233.length co48] 29 (0, 0)) zO3_23 hb); have n9_ := Aside0.mk (below_step zO3_1 hb); clear HO_224001; clear HO_229001; clear HO_238001; clear HO242; clear BK208; clear BK209; clear BK223; clear BK228; clear BK237; clear HB; have HO_224001 := n0_; have HO_229001 := n1_; have HO_238001 := n2_; have HO242 := n3_; have BK208 := n4_; have BK209 := n5_; have BK223 := n6_; have BK228 := n7_; have BK237 := n8_; have HB := n9_; clear n0_ n1_ n2_ n3_ n4_ n5_ n6_ n7_ n8_ n9_; (try clear hb); (try clear hb2); (try clear hk); (try clear hi)))
                    go_meet
                    case rel => exact ⟨_, ((t236 != t222)), zO3_34, H', ⟨by have := HJ15.out; first | omega | exact Nat.le_refl _⟩, ⟨by (with_reducible repeat (first | apply Kd.R_alloc | apply Kd.R_drewN | apply Kd.R_drew)); exact Kd.R_mono HO_224001.out (fun _ hk => ⟨hk.1, hk.2.1⟩)⟩, ⟨by (with_reducible repeat (first | apply Kd.R_alloc | apply Kd.R_drewN | apply Kd.R_drew)); exact Kd.R_mono HO_229001.out (fun _ hk => ⟨hk.1.1, hk.1.2⟩)⟩, ⟨by (with_reducible repeat (first | apply Kd.R_alloc | apply Kd.R_drewN | apply Kd.R_drew)); exact Kd.R_mono HO_238001.out (fun _ hk => ⟨hk.1, hk.2.1⟩)⟩, ⟨by (with_reducible repeat (first | refine blk_drewN ?_ _ | refine blk_drew ?_ | refine blk_alloc ?_ _)); exact BK208.out⟩, ⟨by (with_reducible repeat (first | refine blk_drewN ?_ _ | refine blk_drew ?_ | refine blk_alloc ?_ _)); exact BK209.out⟩, ⟨by (with_reducible repeat (first | refine blk_drewN ?_ _ | refine blk_drew ?_ | refine blk_alloc ?_ _)); exact BK223.out⟩, ⟨by (with_reducible repeat (first | refine blk_drewN ?_ _ | refine blk_drew ?_ | refine blk_alloc ?_ _)); exact BK228.out⟩, ⟨by (with_reducible repeat (first | refine blk_drewN ?_ _ | refine blk_drew ?_ | refine blk_alloc ?_ _)); exact BK237.out⟩, ⟨by repeat (first | (with_reducible first | exact HB.out | apply below_alloc | apply pw_below_drewN | apply below_drew1 | refine below_set ?_ GE208.out | refine below_set ?_ GE209.out | refine below_set ?_ GE223.out | refine below_set ?_ GE228.out | refine below_set ?_ GE237.out) | exact HB.out)⟩⟩
                  · replace c90 := Bool.eq_false_iff.mpr c90
                    subst c90
                    have H1 : (laws_FnExactAddClue.j1 kj15 t222 true a0_0 l0_1 a1_0 a1_1 a1_2 t218 t219 t232 t233) = some r := by rw [if_neg (show ¬ (false = true) by decide)] at H; exact H
                    clear H; have H := H1; clear H1
                    exact absurd (HR_.out.symm.trans (laws_FnExactAddClue.j1_true _ _ _ _ _ _ _ _ _ _ _ _ H)) (by decide)
             case rest =>
              as_aux_lemma =>
                clear HC77; (try clear c1); (try clear c2); (try clear p2); (try clear c5); (try clear c6); (try clear c7); (try clear c8); (try clear c9); (try clear c10); (try clear c17); (try clear c19); (try clear c21); (try clear c22); (try clear c23); (try clear c51); (try clear c52); (try clear c53); (try clear c54); (try clear c55); (try clear c57); (try clear c58); (try clear c59); (try clear c62); (try clear c63); (try clear c64); (try clear c65); (try clear c67); (try clear c68); (try clear c69); (try clear c72); (try clear c75); (try clear c82); (try clear c83); (try clear c84); (try clear c85); (try clear c88); (try clear c88b0); (try clear c90); (try clear c91); (try clear c92); (try clear c93); (try clear c94); (try clear c96); (try clear c97); (try clear c98); (try clear c101); (try clear c102); (try clear c103); (try clear c104); (try clear c106); (try clear c107); (try clear c108); (try clear hcz105_0); (try clear hcz105_1); (try clear hcz109_0); (try clear hcz109_1); (try clear hcz56_0); (try clear hcz56_1); (try clear hcz60_0); (try clear hcz60_1); (try clear hcz66_0); (try clear hcz66_1); (try clear hcz70_0); (try clear hcz70_1); (try clear hcz86_0); (try clear hcz86_1); (try clear hcz95_0); (try clear hcz95_1); (try clear hcz99_0); (try clear hcz99_1); (try clear hfz105_0); (try clear hfz105_1); (try clear hfz109_0); (try clear hfz109_1); (try clear hfz56_0); (try clear hfz56_1); (try clear hfz60_0); (try clear hfz60_1); (try clear hfz66_0); (try clear hfz66_1); (try clear hfz70_0); (try clear hfz70_1); (try clear hfz86_0); (try clear hfz86_1); (try clear hfz95_0); (try clear hfz95_1); (try clear hfz99_0); (try clear hfz99_1); (try clear p2)
                obtain ⟨kq, x67_76, rfl, HA, HJ76, HO_224001, HO_229001, HO_238001, BK208, BK209, BK223, BK228, BK237, HB⟩ := hcut
                have hl229001_76 := (Kd.R_reads' HO_229001.out).1
                rw [hl229001_76] at HO_229001
                (try simp only [hl229001_76])
                (try simp only [hl229001_76] at BK208)
                (try simp only [hl229001_76] at BK209)
                (try simp only [hl229001_76] at BK223)
                (try simp only [hl229001_76] at BK228)
                (try simp only [hl229001_76] at BK237)
                (try simp only [hl229001_76] at HO_224001)
                (try simp only [hl229001_76] at HO_238001)
                cases kq with
                | zero => exact absurd HA.out (by simp [laws_FnExactAddClue.j1])
                | succ kj76 =>
                  have H := HA.out; clear HA
                  simp only [laws_FnExactAddClue.j1] at H
                  by_cases c111 : x67_76 = true
                  · subst c111
                    have H1 : (some false) = some r := by rw [if_pos rfl] at H; exact H
                    clear H; have H := H1; clear H1
                    obtain rfl := Option.some.inj H
                    exact absurd HR_.out (by decide)
                  · replace c111 := Bool.eq_false_iff.mpr c111
                    subst c111
                    have H1 : ((laws_markPuzzle.f kj76 t232 t233 1).bind fun bt247 => ((laws_heldPuzzle.f kj76 t232 bt247.2 1).bind fun t249 => (if t249 < 0 then (some false) else (if t249 = bt247.1 then ((laws_toPuzzle.f kj76 a0_0 l0_1).bind fun bt250 => ((laws_toClue.f a1_0 a1_1 a1_2).bind fun bt254 => ((impl_AddClue.f kj76 bt250.1 bt250.2 bt254.1 bt254.2.1 bt254.2.2).bind fun bt257 => ((laws_eqPuzzle.f kj76 bt257.1 bt257.2.1 t218 t219).bind fun t263 => (if t263 = true then (laws_FnExactAddClue.j2 kj76 bt247.1 (bt257.2.2 != t222) t232 bt247.2) else (laws_FnExactAddClue.j2 kj76 bt247.1 true t232 bt247.2)))))) else (some false))))) = some r := by rw [if_neg (show ¬ (false = true) by decide)] at H; exact H
                    clear H; have H := H1; clear H1; replace H := Option.bind_eq_some_iff.mp H
                    obtain ⟨⟨t247, t248⟩, A1120, H⟩ := H
                    replace H : ((laws_heldPuzzle.f kj76 t232 t248 1).bind fun t249 => (if t249 < 0 then (some false) else (if t249 = t247 then ((laws_toPuzzle.f kj76 a0_0 l0_1).bind fun bt250 => ((laws_toClue.f a1_0 a1_1 a1_2).bind fun bt254 => ((impl_AddClue.f kj76 bt250.1 bt250.2 bt254.1 bt254.2.1 bt254.2.2).bind fun bt257 => ((laws_eqPuzzle.f kj76 bt257.1 bt257.2.1 t218 t219).bind fun t263 => (if t263 = true then (laws_FnExactAddClue.j2 kj76 t247 (bt257.2.2 != t222) t232 t248) else (laws_FnExactAddClue.j2 kj76 t247 true t232 t248)))))) else (some false)))) = some r := H
                    have A112 := Aside0.mk A1120
                    clear A1120; replace H := Option.bind_eq_some_iff.mp H
                    obtain ⟨t249, A1130, H⟩ := H
                    replace H : (if t249 < 0 then (some false) else (if t249 = t247 then ((laws_toPuzzle.f kj76 a0_0 l0_1).bind fun bt250 => ((laws_toClue.f a1_0 a1_1 a1_2).bind fun bt254 => ((impl_AddClue.f kj76 bt250.1 bt250.2 bt254.1 bt254.2.1 bt254.2.2).bind fun bt257 => ((laws_eqPuzzle.f kj76 bt257.1 bt257.2.1 t218 t219).bind fun t263 => (if t263 = true then (laws_FnExactAddClue.j2 kj76 t247 (bt257.2.2 != t222) t232 t248) else (laws_FnExactAddClue.j2 kj76 t247 true t232 t248)))))) else (some false))) = some r := H
                    have A113 := Aside0.mk A1130
                    clear A1130
                    by_cases c114 : t249 < 0
                    · rw [if_pos c114] at H
                      have c114b0 : decide (t249 < 0) = true := decide_eq_true c114; clear c114
                      obtain rfl := Option.some.inj H
                      exact absurd HR_.out (by decide)
                    · rw [if_neg c114] at H
                      have c114b0 : decide (t249 < 0) = false := decide_eq_false c114; clear c114
                      by_cases c115 : t249 = t247
                      · rw [if_pos c115] at H
                        have c115b0 : (t249 == t247) = true := beq_iff_eq.mpr c115
                        have c115b1 : (t249 != t247) = false := bne_eq_false_iff_eq.mpr c115
                        clear c115; replace H := Option.bind_eq_some_iff.mp H
                        obtain ⟨⟨t250, t251⟩, A1160, H⟩ := H
                        replace H : ((laws_toClue.f a1_0 a1_1 a1_2).bind fun bt254 => ((impl_AddClue.f kj76 t250 t251 bt254.1 bt254.2.1 bt254.2.2).bind fun bt257 => ((laws_eqPuzzle.f kj76 bt257.1 bt257.2.1 t218 t219).bind fun t263 => (if t263 = true then (laws_FnExactAddClue.j2 kj76 t247 (bt257.2.2 != t222) t232 t248) else (laws_FnExactAddClue.j2 kj76 t247 true t232 t248))))) = some r := H
                        have A116 := Aside0.mk A1160
                        clear A1160; replace H := Option.bind_eq_some_iff.mp H
                        obtain ⟨⟨t254, t255, t256⟩, A1170, H⟩ := H
                        replace H : ((impl_AddClue.f kj76 t250 t251 t254 t255 t256).bind fun bt257 => ((laws_eqPuzzle.f kj76 bt257.1 bt257.2.1 t218 t219).bind fun t263 => (if t263 = true then (laws_FnExactAddClue.j2 kj76 t247 (bt257.2.2 != t222) t232 t248) else (laws_FnExactAddClue.j2 kj76 t247 true t232 t248)))) = some r := H
                        have A117 := Aside0.mk A1170
                        clear A1170; replace H := Option.bind_eq_some_iff.mp H
                        obtain ⟨⟨t257, t258, t261⟩, A1180, H⟩ := H
                        replace H : ((laws_eqPuzzle.f kj76 t257 t258 t218 t219).bind fun t263 => (if t263 = true then (laws_FnExactAddClue.j2 kj76 t247 (t261 != t222) t232 t248) else (laws_FnExactAddClue.j2 kj76 t247 true t232 t248))) = some r := H
                        have A118 := Aside0.mk A1180
                        clear A1180
                        have HC119 := Aside0.mk H
                        clear H; have hnb120 := NB237_208.out; have hnc120 := NB208_237.out; have hnb121 := NB237_209.out; have hnc121 := NB209_237.out; have hnb122 := NB237_223.out; have hnc122 := NB223_237.out; have hnb123 := NB237_228.out; have hnc123 := NB228_237.out
                        have hcz124_0 : wc.cell? ⟨gb237, 0, none⟩ = some (.int .i64 t232) := (blk_cell BK237.out 0).trans rfl
                        have hcz124_1 : wc.cell? ⟨gb237, 1, none⟩ = some (.slice Ao48 t233.length co48) := (blk_cell BK237.out 1).trans rfl
                        have hfz124_0 := blk_frozen BK237.out 0
                        have hfz124_1 := blk_frozen BK237.out 1
                        try go_wp2_with (first | ((with_reducible refine gate_callee (f := 23) rfl ?_); refine goesL_ (some 70) rfl rfl Try.func23 (by kernel_rfl) rfl #[.agg #[.int .i64 t232, .slice Ao48 t233.length co48], .int .i64 1] rfl zO3_15 ?_; (with_reducible refine (laws_markPuzzle.calls kj76 t232 (fun k_ => some k_ = (.slice Ao48 t233.length co48 : Value).ownBlock) (.slice Ao48 t233.length co48) t233 1 t247 t248 w _ ?side1 ?side2 A112.out).mono ?_); (case side1 => repeat (first | (with_reducible first | exact HB.out | apply below_alloc | apply pw_below_drewN | apply below_drew1 | refine below_set ?_ GE208.out | refine below_set ?_ GE209.out | refine below_set ?_ GE223.out | refine below_set ?_ GE228.out | refine below_set ?_ GE237.out) | exact HB.out)); (case side2 => exact Kd.R_tight rfl HO_238001.out); rintro e w125 ⟨rfl, hy0, hb, hkp⟩; refine ⟨_, rfl, ?_⟩; have n0_ := Aside0.mk (Kd.R_mono (ok' := fun k_ => some k_ ≠ (.slice Ao40 t245.length co40 : Value).ownBlock ∧ some k_ ≠ (.slice Ao48 t233.length co48 : Value).ownBlock) (Kd.R_keptB (HO_224001.out) hkp (fun k_ hk_ hs_ => (hk_.2) hs_)) (fun k_ hk_ => ⟨hk_.1.1, hk_.1.2⟩)); have n1_ := Aside0.mk (Kd.R_mono (ok' := fun k_ => some k_ ≠ (.slice Ao30 t219.length co30 : Value).ownBlock ∧ some k_ ≠ (.slice Ao48 t233.length co48 : Value).ownBlock) (Kd.R_keptB (HO_229001.out) hkp (fun k_ hk_ hs_ => (hk_.2) hs_)) (fun k_ hk_ => ⟨hk_.1.1, hk_.1.2⟩)); have n2_ := Aside0.mk (Kd.R_reok rfl hy0 (fun k_ e_ => HO_238001.out.1 k_ e_)); have n3_ := Aside0.mk (blk_kept zO3_19 hkp (fun hs_ => (fun e_ => (Kd.R_ne HO_238001.out BK208.out (by decide)) e_) hs_)); have n4_ := Aside0.mk (blk_kept zO3_20 hkp (fun hs_ => (fun e_ => (Kd.R_ne HO_238001.out BK209.out (by decide)) e_) hs_)); have n5_ := Aside0.mk (blk_kept zO3_21 hkp (fun hs_ => (fun e_ => (Kd.R_ne HO_238001.out BK223.out (by decide)) e_) hs_)); have n6_ := Aside0.mk (blk_kept zO3_22 hkp (fun hs_ => (fun e_ => (Kd.R_ne HO_238001.out BK228.out (by decide)) e_) hs_)); have n7_ := Aside0.mk (blk_kept zO3_23 hkp (fun hs_ => (fun e_ => (Kd.R_ne HO_238001.out BK237.out (by decide)) e_) hs_)); have n8_ := Aside0.mk (hb); clear HO_224001; clear HO_229001; clear HO_238001; clear BK208; clear BK209; clear BK223; clear BK228; clear BK237; clear HB; have HO_224001 := n0_; have HO_229001 := n1_; have HO_238001 := n2_; have BK208 := n3_; have BK209 := n4_; have BK223 := n5_; have BK228 := n6_; have BK237 := n7_; have HB := n8_; clear n0_ n1_ n2_ n3_ n4_ n5_ n6_ n7_ n8_; (try clear hb); (try clear hkp); (try clear hy0); have hcz126_0 : w125.cell? ⟨gb237, 0, none⟩ = some (.int .i64 t232) := (blk_cell BK237.out 0).trans rfl; have hcz126_1 : w125.cell? ⟨gb237, 1, none⟩ = some (.slice Ao48 t233.length co48) := (blk_cell BK237.out 1).trans rfl; have hfz126_0 := blk_frozen BK237.out 0; have hfz126_1 := blk_frozen BK237.out 1) | ((with_reducible refine gate_callee (f := 24) rfl ?_); refine goesL_ (some 73) rfl rfl Try.func24 (by kernel_rfl) rfl #[.agg #[.int .i64 t232, .slice Ao48 t248.length co48], .int .i64 1] rfl (by (try simp only [List.map_toArray, List.map_cons, List.map_nil]); first | done | (rw [show t248.length = t233.length from (Kd.R_reads' HO_238001.out).1.symm] <;> rfl) | rfl | (simp only [List.length_drop, List.length_take]; rfl)) ?_; (with_reducible refine (laws_heldPuzzle.calls kj76 t232 _ _ t248 1 t249 _ ?side1 ?side2 A113.out).mono ?_); (case side1 => repeat (first | exact (Kd.R_reads' HO_238001.out).2.2 | (with_reducible refine Kd.C_alloc ?_ _) | (with_reducible refine Kd.C_drewN ?_ _) | (with_reducible refine Kd.C_drew ?_))); (case side2 => rw [show t248.length = t233.length from (Kd.R_reads' HO_238001.out).1.symm]; exact (Kd.R_reads' HO_238001.out).2.1); rintro e w127 ⟨rfl, hb⟩; refine ⟨_, rfl, ?_⟩; have n0_ := Aside0.mk (Kd.R_below zO3_25 hb); have n1_ := Aside0.mk (Kd.R_below zO3_26 hb); have n2_ := Aside0.mk (Kd.R_below zO3_27 hb); have n3_ := Aside0.mk (blk_below (g := gb208) (o := .cells #[.int .i64 a0_0, .slice A0_1 l0_1.length c0_1] 24 (0, 0)) zO3_19 hb); have n4_ := Aside0.mk (blk_below (g := gb209) (o := .cells #[.int .i64 a1_0, .int .i64 a1_1, .int .i64 a1_2] 34 (0, 0)) zO3_20 hb); have n5_ := Aside0.mk (blk_below (g := gb223) (o := .cells #[.int .i64 t218, .slice Ao30 t219.length co30] 29 (0, 0)) zO3_21 hb); have n6_ := Aside0.mk (blk_below (g := gb228) (o := .cells #[.int .i64 t224, .slice Ao40 t245.length co40] 29 (0, 0)) zO3_22 hb); have n7_ := Aside0.mk (blk_below (g := gb237) (o := .cells #[.int .i64 t232, .slice Ao48 t233.length co48] 29 (0, 0)) zO3_23 hb); have n8_ := Aside0.mk (below_step zO3_1 hb); clear HO_224001; clear HO_229001; clear HO_238001; clear BK208; clear BK209; clear BK223; clear BK228; clear BK237; clear HB; have HO_224001 := n0_; have HO_229001 := n1_; have HO_238001 := n2_; have BK208 := n3_; have BK209 := n4_; have BK223 := n5_; have BK228 := n6_; have BK237 := n7_; have HB := n8_; clear n0_ n1_ n2_ n3_ n4_ n5_ n6_ n7_ n8_; (try clear hb); (try clear hb2); (try clear hk); (try clear hi)))
                        have n0_ := Aside0.mk (Kd.R_drew HO_224001.out)
                        have n1_ := Aside0.mk (Kd.R_drew HO_229001.out)
                        have n2_ := Aside0.mk (Kd.R_drew HO_238001.out)
                        have n3_ := Aside0.mk (blk_drew BK208.out)
                        have n4_ := Aside0.mk (blk_drew BK209.out)
                        have n5_ := Aside0.mk (blk_drew BK223.out)
                        have n6_ := Aside0.mk (blk_drew BK228.out)
                        have n7_ := Aside0.mk (blk_drew BK237.out)
                        have n8_ := Aside0.mk (below_drew1 HB.out)
                        clear HO_224001; clear HO_229001; clear HO_238001; clear BK208; clear BK209; clear BK223; clear BK228; clear BK237; clear HB; have HO_224001 := n0_; have HO_229001 := n1_; have HO_238001 := n2_; have BK208 := n3_; have BK209 := n4_; have BK223 := n5_; have BK228 := n6_; have BK237 := n7_; have HB := n8_; clear n0_ n1_ n2_ n3_ n4_ n5_ n6_ n7_ n8_
                        refine start_ (n := 11) (S := fun w' => w'.cell? ⟨gb208, 0, none⟩ = some (.int .i64 a0_0) ∧ w'.cell? ⟨gb208, 1, none⟩ = some (.slice A0_1 l0_1.length c0_1) ∧ w'.cell? ⟨gb209, 0, none⟩ = some (.int .i64 a1_0) ∧ w'.cell? ⟨gb209, 1, none⟩ = some (.int .i64 a1_1) ∧ w'.cell? ⟨gb209, 2, none⟩ = some (.int .i64 a1_2)) (ds := []) #[false, false, false, false, false, false, false, false, false, false, false] (by kernel_rfl) rfl rfl ⟨(blk_cell BK208.out 0).trans rfl, (blk_cell BK208.out 1).trans rfl, (blk_cell BK209.out 0).trans rfl, (blk_cell BK209.out 1).trans rfl, (blk_cell BK209.out 2).trans rfl⟩ (fun hHeld => ?_); refine with_tabW laws_FnExactAddClue.tab24 laws_FnExactAddClue.bits24 (fun HT_ HW_ => ?_)
                        generalize w127.drew = w128 at HO_224001 HO_229001 HO_238001 BK208 BK209 BK223 BK228 BK237 HB hHeld ⊢
                        refine take_ (i := 0) (N := some 80) (v := ?_) (a' := ?_) #[true, false, false, false, false, false, false, false, false, false, false] rfl rfl (take_ofW HT_.out HW_.out (by kernel_rfl)) (fun _ _ _ h => h) (Or.inl ⟨by rfl, ?_⟩) hHeld ?_ ?_
                        rotate_left
                        · rintro w' ⟨s0, s1, s2, s3, s4⟩
                          go_simp
                          with_reducible rfl
                        rotate_left
                        · simp only [Act.put, List.setIfInBounds_toArray, List.set_cons_zero, List.set_cons_succ, i64_w, i32_w]
                          rfl
                        refine take_ (i := 2) (N := some 82) (v := ?_) (a' := ?_) #[true, false, true, false, false, false, false, false, false, false, false] rfl rfl (take_ofW HT_.out HW_.out (by kernel_rfl)) (fun _ _ _ h => h) (Or.inl ⟨by rfl, ?_⟩) hHeld ?_ ?_
                        rotate_left
                        · rintro w' ⟨s0, s1, s2, s3, s4⟩
                          go_simp
                          with_reducible rfl
                        rotate_left
                        · simp only [Act.put, List.setIfInBounds_toArray, List.set_cons_zero, List.set_cons_succ, i64_w, i32_w]
                          rfl
                        refine join_ (σ := Value × Value × Nat) 2 #[true, true, true, true, true, true, true, true, true, false, false] (fun s_ => [(81, .agg #[.int .i64 t250, s_.1]), (83, .agg #[.int .i64 t254, .int .i64 t255, .int .i64 t256]), (84, .tuple #[.agg #[.int .i64 t257, s_.2.1], .bool t261]), (14, .pointer (some ⟨s_.2.2, 0, none⟩)), (79, .tuple #[.agg #[.int .i64 t257, s_.2.1], .bool t261]), (85, .agg #[.int .i64 t257, s_.2.1]), (86, .bool t261)]) (fun s_ w' => (w'.cell? ⟨gb208, 0, none⟩ = some (.int .i64 a0_0) ∧ w'.cell? ⟨gb208, 1, none⟩ = some (.slice A0_1 l0_1.length c0_1) ∧ w'.cell? ⟨gb209, 0, none⟩ = some (.int .i64 a1_0) ∧ w'.cell? ⟨gb209, 1, none⟩ = some (.int .i64 a1_1) ∧ w'.cell? ⟨gb209, 2, none⟩ = some (.int .i64 a1_2)) ∧ (Kd.R k37 37 w' w.heap.size (fun k_ => some k_ ≠ (s_.2.1 : Value).ownBlock ∧ some k_ ≠ (.slice Ao30 t219.length co30 : Value).ownBlock ∧ some k_ ≠ (.slice Ao40 t245.length co40 : Value).ownBlock ∧ some k_ ≠ (.slice Ao48 t233.length co48 : Value).ownBlock) s_.1 t251) ∧ (Kd.R k37 37 w' w.heap.size (fun k_ => some k_ ≠ (s_.1 : Value).ownBlock ∧ some k_ ≠ (.slice Ao30 t219.length co30 : Value).ownBlock ∧ some k_ ≠ (.slice Ao40 t245.length co40 : Value).ownBlock ∧ some k_ ≠ (.slice Ao48 t233.length co48 : Value).ownBlock) s_.2.1 t258) ∧ (Kd.R k37 37 w' w.heap.size (fun k_ => some k_ ≠ (s_.1 : Value).ownBlock ∧ some k_ ≠ (s_.2.1 : Value).ownBlock ∧ some k_ ≠ (.slice Ao40 t245.length co40 : Value).ownBlock ∧ some k_ ≠ (.slice Ao48 t233.length co48 : Value).ownBlock) (.slice Ao30 t219.length co30) t219) ∧ (Kd.R k37 37 w' w.heap.size (fun k_ => some k_ ≠ (s_.1 : Value).ownBlock ∧ some k_ ≠ (s_.2.1 : Value).ownBlock ∧ some k_ ≠ (.slice Ao30 t219.length co30 : Value).ownBlock ∧ some k_ ≠ (.slice Ao48 t233.length co48 : Value).ownBlock) (.slice Ao40 t245.length co40) t245) ∧ (Kd.R k37 37 w' w.heap.size (fun k_ => some k_ ≠ (s_.1 : Value).ownBlock ∧ some k_ ≠ (s_.2.1 : Value).ownBlock ∧ some k_ ≠ (.slice Ao30 t219.length co30 : Value).ownBlock ∧ some k_ ≠ (.slice Ao40 t245.length co40 : Value).ownBlock) (.slice Ao48 t233.length co48) t248) ∧ (w'.heap[gb208]? = some (.cells #[.int .i64 a0_0, .slice A0_1 l0_1.length c0_1] 24 (0, 0))) ∧ (w'.heap[gb209]? = some (.cells #[.int .i64 a1_0, .int .i64 a1_1, .int .i64 a1_2] 34 (0, 0))) ∧ (w'.heap[gb223]? = some (.cells #[.int .i64 t218, .slice Ao30 t219.length co30] 29 (0, 0))) ∧ (w'.heap[gb228]? = some (.cells #[.int .i64 t224, .slice Ao40 t245.length co40] 29 (0, 0))) ∧ (w'.heap[gb237]? = some (.cells #[.int .i64 t232, .slice Ao48 t233.length co48] 29 (0, 0))) ∧ (w'.heap[s_.2.2]? = some (.cells #[.int .i64 0, .slice none 0 0] 29 (0, 0))) ∧ (w.heap.size ≤ s_.2.2) ∧ (w.heap.size ≤ s_.2.2) ∧ (gb208 ≠ s_.2.2) ∧ (s_.2.2 ≠ gb208) ∧ (gb209 ≠ s_.2.2) ∧ (s_.2.2 ≠ gb209) ∧ (gb223 ≠ s_.2.2) ∧ (s_.2.2 ≠ gb223) ∧ (gb228 ≠ s_.2.2) ∧ (s_.2.2 ≠ gb228) ∧ (gb237 ≠ s_.2.2) ∧ (s_.2.2 ≠ gb237) ∧ (Below w.heap.size w w')) ?_ ?_
                        rotate_left
                        · intro hCont
                          refine two_ (i := 1) (j := 8) (Ni := some 81) (Nj := some 14) #[true, true, true, false, false, false, false, false, false, false, false] #[true, false, true, false, false, false, false, false, true, false, false] rfl rfl rfl rfl (two_of HT_.out (by kernel_rfl)) (by decide) (by decide) (fun K hK => ?_) (fun K hK => ?_)
                          · skip
                            refine goes_ Try.func17 (by kernel_rfl) rfl #[.agg #[.int .i64 a0_0, .slice A0_1 l0_1.length c0_1]] (by rfl) rfl rfl zO3_15 ?_
                            with_reducible refine (laws_toPuzzle.calls kj76 a0_0 _ _ l0_1 t250 t251 _ ?side1 ?side2 A116.out).mono ?_
                            (case side1 => repeat (first | exact (Kd.C_below HR0_1.out HB.out) | (with_reducible refine Kd.C_alloc ?_ _) | (with_reducible refine Kd.C_drewN ?_ _) | (with_reducible refine Kd.C_drew ?_)))
                            (case side2 => exact HC0_1.out)
                            rintro e w129 ⟨v252, rfl, ho0, hb⟩
                            refine ⟨_, rfl, ?_⟩
                            have n0_ := Aside0.mk (Kd.R_elder' zO3_25 (Kd.R_base ho0) hb)
                            have n1_ := Aside0.mk (Kd.R_elder' zO3_26 (Kd.R_base ho0) hb)
                            have n2_ := Aside0.mk (Kd.R_elder' zO3_27 (Kd.R_base ho0) hb)
                            have n3_ := Aside0.mk (Kd.R_lower (Kd.R_new' (Kd.R_new' (Kd.R_new' ho0 (Kd.R_lt zO3_25)) (Kd.R_lt zO3_26)) (Kd.R_lt zO3_27)) (below_size zO3_1))
                            have n4_ := Aside0.mk (blk_below (g := gb208) (o := .cells #[.int .i64 a0_0, .slice A0_1 l0_1.length c0_1] 24 (0, 0)) zO3_19 hb)
                            have n5_ := Aside0.mk (blk_below (g := gb209) (o := .cells #[.int .i64 a1_0, .int .i64 a1_1, .int .i64 a1_2] 34 (0, 0)) zO3_20 hb)
                            have n6_ := Aside0.mk (blk_below (g := gb223) (o := .cells #[.int .i64 t218, .slice Ao30 t219.length co30] 29 (0, 0)) zO3_21 hb)
                            have n7_ := Aside0.mk (blk_below (g := gb228) (o := .cells #[.int .i64 t224, .slice Ao40 t245.length co40] 29 (0, 0)) zO3_22 hb)
                            have n8_ := Aside0.mk (blk_below (g := gb237) (o := .cells #[.int .i64 t232, .slice Ao48 t233.length co48] 29 (0, 0)) zO3_23 hb)
                            have n9_ := Aside0.mk (below_step zO3_1 hb)
                            clear HO_224001; clear HO_229001; clear HO_238001; clear BK208; clear BK209; clear BK223; clear BK228; clear BK237; clear HB; have HO_224001 := n0_; have HO_229001 := n1_; have HO_238001 := n2_; have HO253 := n3_; have BK208 := n4_; have BK209 := n5_; have BK223 := n6_; have BK228 := n7_; have BK237 := n8_; have HB := n9_; clear n0_ n1_ n2_ n3_ n4_ n5_ n6_ n7_ n8_ n9_
                            (try clear hb)
                            (try clear hb2)
                            (try clear hk)
                            (try clear hi)
                            (try clear ho0)
                            refine hK.out _ _ ⟨(blk_cell BK208.out 0).trans rfl, (blk_cell BK208.out 1).trans rfl, (blk_cell BK209.out 0).trans rfl, (blk_cell BK209.out 1).trans rfl, (blk_cell BK209.out 2).trans rfl⟩ (fun hHeld => ?_)
                            clear hK K
                            refine norm_ (a' := ?_) ?_ ?_
                            rotate_left
                            · show Act.put _ (some 81) _ = _
                              simp only [Act.put, List.setIfInBounds_toArray, List.set_cons_zero, List.set_cons_succ, i64_w, i32_w]
                              rfl
                            refine two_ (i := 3) (j := 8) (Ni := some 83) (Nj := some 14) #[true, true, true, true, false, false, false, false, false, false, false] #[true, true, true, false, false, false, false, false, true, false, false] rfl rfl rfl rfl (two_of HT_.out (by kernel_rfl)) (by decide) (by decide) (fun K hK => ?_) (fun K hK => ?_)
                            · skip
                              refine goes_ Try.func21 (by kernel_rfl) rfl #[.agg #[.int .i64 a1_0, .int .i64 a1_1, .int .i64 a1_2]] (by rfl) rfl rfl zO3_15 ?_
                              with_reducible refine (laws_toClue.calls a1_0 a1_1 a1_2 t254 t255 t256 _ A117.out).mono ?_
                              rintro e w130 ⟨rfl, hb⟩
                              refine ⟨_, rfl, ?_⟩
                              have n0_ := Aside0.mk (Kd.R_below zO3_25 hb)
                              have n1_ := Aside0.mk (Kd.R_below zO3_26 hb)
                              have n2_ := Aside0.mk (Kd.R_below zO3_27 hb)
                              have n3_ := Aside0.mk (Kd.R_below zO3_32 hb)
                              have n4_ := Aside0.mk (blk_below (g := gb208) (o := .cells #[.int .i64 a0_0, .slice A0_1 l0_1.length c0_1] 24 (0, 0)) zO3_19 hb)
                              have n5_ := Aside0.mk (blk_below (g := gb209) (o := .cells #[.int .i64 a1_0, .int .i64 a1_1, .int .i64 a1_2] 34 (0, 0)) zO3_20 hb)
                              have n6_ := Aside0.mk (blk_below (g := gb223) (o := .cells #[.int .i64 t218, .slice Ao30 t219.length co30] 29 (0, 0)) zO3_21 hb)
                              have n7_ := Aside0.mk (blk_below (g := gb228) (o := .cells #[.int .i64 t224, .slice Ao40 t245.length co40] 29 (0, 0)) zO3_22 hb)
                              have n8_ := Aside0.mk (blk_below (g := gb237) (o := .cells #[.int .i64 t232, .slice Ao48 t233.length co48] 29 (0, 0)) zO3_23 hb)
                              have n9_ := Aside0.mk (below_step zO3_1 hb)
                              clear HO_224001; clear HO_229001; clear HO_238001; clear HO253; clear BK208; clear BK209; clear BK223; clear BK228; clear BK237; clear HB; have HO_224001 := n0_; have HO_229001 := n1_; have HO_238001 := n2_; have HO253 := n3_; have BK208 := n4_; have BK209 := n5_; have BK223 := n6_; have BK228 := n7_; have BK237 := n8_; have HB := n9_; clear n0_ n1_ n2_ n3_ n4_ n5_ n6_ n7_ n8_ n9_
                              (try clear hb)
                              (try clear hb2)
                              (try clear hk)
                              (try clear hi)
                              obtain ⟨Ao131, co131, eo131⟩ := Kd.R_slice HO253.out
                              (first | subst eo131 | (injection eo131 with f1_ f2_ f3_; have f4_ := f1_.symm; have f5_ := f3_.symm; clear f1_ f2_ f3_; subst f4_; subst f5_))
                              refine hK.out _ _ ⟨(blk_cell BK208.out 0).trans rfl, (blk_cell BK208.out 1).trans rfl, (blk_cell BK209.out 0).trans rfl, (blk_cell BK209.out 1).trans rfl, (blk_cell BK209.out 2).trans rfl⟩ (fun hHeld => ?_)
                              clear hK K
                              refine norm_ (a' := ?_) ?_ ?_
                              rotate_left
                              · show Act.put _ (some 83) _ = _
                                simp only [Act.put, List.setIfInBounds_toArray, List.set_cons_zero, List.set_cons_succ, i64_w, i32_w]
                                rfl
                              refine two_ (i := 4) (j := 8) (Ni := some 84) (Nj := some 14) #[true, true, true, true, true, false, false, false, false, false, false] #[true, true, true, true, false, false, false, false, true, false, false] rfl rfl rfl rfl (two_of HT_.out (by kernel_rfl)) (by decide) (by decide) (fun K hK => ?_) (fun K hK => ?_)
                              · skip
                                refine goes_ Try.func22 (by kernel_rfl) rfl #[.agg #[.int .i64 t250, .slice Ao131 t251.length co131], .agg #[.int .i64 t254, .int .i64 t255, .int .i64 t256]] (by rfl) rfl rfl zO3_15 ?_
                                with_reducible refine (impl_AddClue.calls kj76 t250 _ _ t251 t254 t255 t256 t257 t258 t261 _ ?side1 ?side2 A118.out).mono ?_
                                (case side1 => repeat (first | exact (Kd.R_reads' HO253.out).2.2 | (with_reducible refine Kd.C_alloc ?_ _) | (with_reducible refine Kd.C_drewN ?_ _) | (with_reducible refine Kd.C_drew ?_)))
                                (case side2 => exact (Kd.R_reads' HO253.out).2.1)
                                rintro e w132 ⟨v259, rfl, ho0, hb⟩
                                refine ⟨_, rfl, ?_⟩
                                have n0_ := Aside0.mk (Kd.R_elder' zO3_25 (Kd.R_base ho0) hb)
                                have n1_ := Aside0.mk (Kd.R_elder' zO3_26 (Kd.R_base ho0) hb)
                                have n2_ := Aside0.mk (Kd.R_elder' zO3_27 (Kd.R_base ho0) hb)
                                have n3_ := Aside0.mk (Kd.R_elder' zO3_32 (Kd.R_base ho0) hb)
                                have n4_ := Aside0.mk (Kd.R_lower (Kd.R_new' (Kd.R_new' (Kd.R_new' (Kd.R_new' ho0 (Kd.R_lt zO3_25)) (Kd.R_lt zO3_26)) (Kd.R_lt zO3_27)) (Kd.R_lt zO3_32)) (below_size zO3_1))
                                have n5_ := Aside0.mk (blk_below (g := gb208) (o := .cells #[.int .i64 a0_0, .slice A0_1 l0_1.length c0_1] 24 (0, 0)) zO3_19 hb)
                                have n6_ := Aside0.mk (blk_below (g := gb209) (o := .cells #[.int .i64 a1_0, .int .i64 a1_1, .int .i64 a1_2] 34 (0, 0)) zO3_20 hb)
                                have n7_ := Aside0.mk (blk_below (g := gb223) (o := .cells #[.int .i64 t218, .slice Ao30 t219.length co30] 29 (0, 0)) zO3_21 hb)
                                have n8_ := Aside0.mk (blk_below (g := gb228) (o := .cells #[.int .i64 t224, .slice Ao40 t245.length co40] 29 (0, 0)) zO3_22 hb)
                                have n9_ := Aside0.mk (blk_below (g := gb237) (o := .cells #[.int .i64 t232, .slice Ao48 t233.length co48] 29 (0, 0)) zO3_23 hb)
                                have n10_ := Aside0.mk (below_step zO3_1 hb)
                                clear HO_224001; clear HO_229001; clear HO_238001; clear HO253; clear BK208; clear BK209; clear BK223; clear BK228; clear BK237; clear HB; have HO_224001 := n0_; have HO_229001 := n1_; have HO_238001 := n2_; have HO253 := n3_; have HO260 := n4_; have BK208 := n5_; have BK209 := n6_; have BK223 := n7_; have BK228 := n8_; have BK237 := n9_; have HB := n10_; clear n0_ n1_ n2_ n3_ n4_ n5_ n6_ n7_ n8_ n9_ n10_
                                (try clear hb)
                                (try clear hb2)
                                (try clear hk)
                                (try clear hi)
                                (try clear ho0)
                                refine hK.out _ _ ⟨(blk_cell BK208.out 0).trans rfl, (blk_cell BK208.out 1).trans rfl, (blk_cell BK209.out 0).trans rfl, (blk_cell BK209.out 1).trans rfl, (blk_cell BK209.out 2).trans rfl⟩ (fun hHeld => ?_)
                                clear hK K
                                refine norm_ (a' := ?_) ?_ ?_
                                rotate_left
                                · show Act.put _ (some 84) _ = _
                                  simp only [Act.put, List.setIfInBounds_toArray, List.set_cons_zero, List.set_cons_succ, i64_w, i32_w]
                                  rfl
                                refine pure_ (i := 5) (N := some 79) (v := ?_) (a' := ?_) #[true, true, true, true, true, true, false, false, false, false, false] rfl rfl (any_of HT_.out (by kernel_rfl)) (fun _ _ _ h => h) (Or.inl ⟨by rfl, ?_⟩) ?_ ?_
                                rotate_left
                                · intro w'
                                  go_simp
                                  with_reducible rfl
                                rotate_left
                                · simp only [Act.put, List.setIfInBounds_toArray, List.set_cons_zero, List.set_cons_succ, i64_w, i32_w]
                                  rfl
                                refine pure_ (i := 6) (N := some 85) (v := ?_) (a' := ?_) #[true, true, true, true, true, true, true, false, false, false, false] rfl rfl (any_of HT_.out (by kernel_rfl)) (fun _ _ _ h => h) (Or.inl ⟨by rfl, ?_⟩) ?_ ?_
                                rotate_left
                                · intro w'
                                  go_simp
                                  with_reducible rfl
                                rotate_left
                                · simp only [Act.put, List.setIfInBounds_toArray, List.set_cons_zero, List.set_cons_succ, i64_w, i32_w]
                                  rfl
                                refine pure_ (i := 7) (N := some 86) (v := ?_) (a' := ?_) #[true, true, true, true, true, true, true, true, false, false, false] rfl rfl (any_of HT_.out (by kernel_rfl)) (fun _ _ _ h => h) (Or.inl ⟨by rfl, ?_⟩) ?_ ?_
                                rotate_left
                                · intro w'
                                  go_simp
                                  with_reducible rfl
                                rotate_left
                                · simp only [Act.put, List.setIfInBounds_toArray, List.set_cons_zero, List.set_cons_succ, i64_w, i32_w]
                                  rfl
                                refine one_ (i := 8) (N := some 14) #[true, true, true, true, true, true, true, true, true, false, false] rfl rfl (one_of HT_.out (by kernel_rfl)) (by decide) (fun K hK => ?_)
                                refine box_step ?hg (N := 14) ?hd (cs := #[.int .i64 0, .slice none 0 0]) (t := 29) ?hr ?_; (case hd => rfl); (case hg => rfl); (case hr => first | (go_simp; done) | (go_simp; rfl))
                                intro gb262 hg w133 hbox hb
                                have n0_ := Aside0.mk (Kd.R_below zO3_25 hb)
                                have n1_ := Aside0.mk (Kd.R_below zO3_26 hb)
                                have n2_ := Aside0.mk (Kd.R_below zO3_27 hb)
                                have n3_ := Aside0.mk (Kd.R_below zO3_32 hb)
                                have n4_ := Aside0.mk (Kd.R_below (by (with_reducible repeat (first | apply Kd.R_alloc | apply Kd.R_drewN | apply Kd.R_drew)); exact HO260.out) hb)
                                have n5_ := Aside0.mk (blk_below (g := gb208) (o := .cells #[.int .i64 a0_0, .slice A0_1 l0_1.length c0_1] 24 (0, 0)) zO3_19 hb)
                                have n6_ := Aside0.mk (blk_below (g := gb209) (o := .cells #[.int .i64 a1_0, .int .i64 a1_1, .int .i64 a1_2] 34 (0, 0)) zO3_20 hb)
                                have n7_ := Aside0.mk (blk_below (g := gb223) (o := .cells #[.int .i64 t218, .slice Ao30 t219.length co30] 29 (0, 0)) zO3_21 hb)
                                have n8_ := Aside0.mk (blk_below (g := gb228) (o := .cells #[.int .i64 t224, .slice Ao40 t245.length co40] 29 (0, 0)) zO3_22 hb)
                                have n9_ := Aside0.mk (blk_below (g := gb237) (o := .cells #[.int .i64 t232, .slice Ao48 t233.length co48] 29 (0, 0)) zO3_23 hb)
                                have n10_ := Aside0.mk (below_step zO3_1 hb)
                                have n11_ := Aside0.mk (hbox)
                                have n12_ := Aside0.mk ((by rw [hg]; exact (below_size zO3_1) : w.heap.size ≤ gb262))
                                have n13_ := Aside0.mk ((by rw [hg]; exact (below_size zO3_1) : w.heap.size ≤ gb262))
                                have n14_ := Aside0.mk ((by rw [hg]; exact Nat.ne_of_lt (blk_lt (g := gb208) (o := .cells #[.int .i64 a0_0, .slice A0_1 l0_1.length c0_1] 24 (0, 0)) zO3_19) : gb208 ≠ gb262))
                                have n15_ := Aside0.mk ((by rw [hg]; exact Nat.ne_of_gt (blk_lt (g := gb208) (o := .cells #[.int .i64 a0_0, .slice A0_1 l0_1.length c0_1] 24 (0, 0)) zO3_19) : gb262 ≠ gb208))
                                have n16_ := Aside0.mk ((by rw [hg]; exact Nat.ne_of_lt (blk_lt (g := gb209) (o := .cells #[.int .i64 a1_0, .int .i64 a1_1, .int .i64 a1_2] 34 (0, 0)) zO3_20) : gb209 ≠ gb262))
                                have n17_ := Aside0.mk ((by rw [hg]; exact Nat.ne_of_gt (blk_lt (g := gb209) (o := .cells #[.int .i64 a1_0, .int .i64 a1_1, .int .i64 a1_2] 34 (0, 0)) zO3_20) : gb262 ≠ gb209))
                                have n18_ := Aside0.mk ((by rw [hg]; exact Nat.ne_of_lt (blk_lt (g := gb223) (o := .cells #[.int .i64 t218, .slice Ao30 t219.length co30] 29 (0, 0)) zO3_21) : gb223 ≠ gb262))
                                have n19_ := Aside0.mk ((by rw [hg]; exact Nat.ne_of_gt (blk_lt (g := gb223) (o := .cells #[.int .i64 t218, .slice Ao30 t219.length co30] 29 (0, 0)) zO3_21) : gb262 ≠ gb223))
                                have n20_ := Aside0.mk ((by rw [hg]; exact Nat.ne_of_lt (blk_lt (g := gb228) (o := .cells #[.int .i64 t224, .slice Ao40 t245.length co40] 29 (0, 0)) zO3_22) : gb228 ≠ gb262))
                                have n21_ := Aside0.mk ((by rw [hg]; exact Nat.ne_of_gt (blk_lt (g := gb228) (o := .cells #[.int .i64 t224, .slice Ao40 t245.length co40] 29 (0, 0)) zO3_22) : gb262 ≠ gb228))
                                have n22_ := Aside0.mk ((by rw [hg]; exact Nat.ne_of_lt (blk_lt (g := gb237) (o := .cells #[.int .i64 t232, .slice Ao48 t233.length co48] 29 (0, 0)) zO3_23) : gb237 ≠ gb262))
                                have n23_ := Aside0.mk ((by rw [hg]; exact Nat.ne_of_gt (blk_lt (g := gb237) (o := .cells #[.int .i64 t232, .slice Ao48 t233.length co48] 29 (0, 0)) zO3_23) : gb262 ≠ gb237))
                                clear HO_224001; clear HO_229001; clear HO_238001; clear HO253; clear HO260; clear BK208; clear BK209; clear BK223; clear BK228; clear BK237; clear HB; have HO_224001 := n0_; have HO_229001 := n1_; have HO_238001 := n2_; have HO253 := n3_; have HO260 := n4_; have BK208 := n5_; have BK209 := n6_; have BK223 := n7_; have BK228 := n8_; have BK237 := n9_; have HB := n10_; have BK262 := n11_; have GW262 := n12_; have GE262 := n13_; have NB208_262 := n14_; have NB262_208 := n15_; have NB209_262 := n16_; have NB262_209 := n17_; have NB223_262 := n18_; have NB262_223 := n19_; have NB228_262 := n20_; have NB262_228 := n21_; have NB237_262 := n22_; have NB262_237 := n23_; clear n0_ n1_ n2_ n3_ n4_ n5_ n6_ n7_ n8_ n9_ n10_ n11_ n12_ n13_ n14_ n15_ n16_ n17_ n18_ n19_ n20_ n21_ n22_ n23_; clear hb hbox hg
                                refine hK.out _ _ ⟨(blk_cell BK208.out 0).trans rfl, (blk_cell BK208.out 1).trans rfl, (blk_cell BK209.out 0).trans rfl, (blk_cell BK209.out 1).trans rfl, (blk_cell BK209.out 2).trans rfl⟩ (fun hHeld => ?_)
                                clear hK K
                                refine norm_ (a' := ?_) ?_ ?_
                                rotate_left
                                · show Act.put _ (some 14) _ = _
                                  simp only [Act.put, List.setIfInBounds_toArray, List.set_cons_zero, List.set_cons_succ, i64_w, i32_w]
                                  rfl
                                exact norm_ zO3_33 (hCont (.slice Ao131 t251.length co131, v259, gb262) _ ⟨hHeld, zO3_8, zO3_9, zO3_5, zO3_6, zO3_7, zO3_19, zO3_20, zO3_21, zO3_22, zO3_23, zO3_24, GW262.out, GE262.out, NB208_262.out, NB262_208.out, NB209_262.out, NB262_209.out, NB223_262.out, NB262_223.out, NB228_262.out, NB262_228.out, NB237_262.out, NB262_237.out, zO3_0⟩)
                              · skip
                                refine box_step ?hg (N := 14) ?hd (cs := #[.int .i64 0, .slice none 0 0]) (t := 29) ?hr ?_; (case hd => rfl); (case hg => rfl); (case hr => first | (go_simp; done) | (go_simp; rfl))
                                intro gb262 hg w131 hbox hb
                                have n0_ := Aside0.mk (Kd.R_below zO3_25 hb)
                                have n1_ := Aside0.mk (Kd.R_below zO3_26 hb)
                                have n2_ := Aside0.mk (Kd.R_below zO3_27 hb)
                                have n3_ := Aside0.mk (Kd.R_below zO3_32 hb)
                                have n4_ := Aside0.mk (blk_below (g := gb208) (o := .cells #[.int .i64 a0_0, .slice A0_1 l0_1.length c0_1] 24 (0, 0)) zO3_19 hb)
                                have n5_ := Aside0.mk (blk_below (g := gb209) (o := .cells #[.int .i64 a1_0, .int .i64 a1_1, .int .i64 a1_2] 34 (0, 0)) zO3_20 hb)
                                have n6_ := Aside0.mk (blk_below (g := gb223) (o := .cells #[.int .i64 t218, .slice Ao30 t219.length co30] 29 (0, 0)) zO3_21 hb)
                                have n7_ := Aside0.mk (blk_below (g := gb228) (o := .cells #[.int .i64 t224, .slice Ao40 t245.length co40] 29 (0, 0)) zO3_22 hb)
                                have n8_ := Aside0.mk (blk_below (g := gb237) (o := .cells #[.int .i64 t232, .slice Ao48 t233.length co48] 29 (0, 0)) zO3_23 hb)
                                have n9_ := Aside0.mk (below_step zO3_1 hb)
                                have n10_ := Aside0.mk (hbox)
                                have n11_ := Aside0.mk ((by rw [hg]; exact (below_size zO3_1) : w.heap.size ≤ gb262))
                                have n12_ := Aside0.mk ((by rw [hg]; exact (below_size zO3_1) : w.heap.size ≤ gb262))
                                have n13_ := Aside0.mk ((by rw [hg]; exact Nat.ne_of_lt (blk_lt (g := gb208) (o := .cells #[.int .i64 a0_0, .slice A0_1 l0_1.length c0_1] 24 (0, 0)) zO3_19) : gb208 ≠ gb262))
                                have n14_ := Aside0.mk ((by rw [hg]; exact Nat.ne_of_gt (blk_lt (g := gb208) (o := .cells #[.int .i64 a0_0, .slice A0_1 l0_1.length c0_1] 24 (0, 0)) zO3_19) : gb262 ≠ gb208))
                                have n15_ := Aside0.mk ((by rw [hg]; exact Nat.ne_of_lt (blk_lt (g := gb209) (o := .cells #[.int .i64 a1_0, .int .i64 a1_1, .int .i64 a1_2] 34 (0, 0)) zO3_20) : gb209 ≠ gb262))
                                have n16_ := Aside0.mk ((by rw [hg]; exact Nat.ne_of_gt (blk_lt (g := gb209) (o := .cells #[.int .i64 a1_0, .int .i64 a1_1, .int .i64 a1_2] 34 (0, 0)) zO3_20) : gb262 ≠ gb209))
                                have n17_ := Aside0.mk ((by rw [hg]; exact Nat.ne_of_lt (blk_lt (g := gb223) (o := .cells #[.int .i64 t218, .slice Ao30 t219.length co30] 29 (0, 0)) zO3_21) : gb223 ≠ gb262))
                                have n18_ := Aside0.mk ((by rw [hg]; exact Nat.ne_of_gt (blk_lt (g := gb223) (o := .cells #[.int .i64 t218, .slice Ao30 t219.length co30] 29 (0, 0)) zO3_21) : gb262 ≠ gb223))
                                have n19_ := Aside0.mk ((by rw [hg]; exact Nat.ne_of_lt (blk_lt (g := gb228) (o := .cells #[.int .i64 t224, .slice Ao40 t245.length co40] 29 (0, 0)) zO3_22) : gb228 ≠ gb262))
                                have n20_ := Aside0.mk ((by rw [hg]; exact Nat.ne_of_gt (blk_lt (g := gb228) (o := .cells #[.int .i64 t224, .slice Ao40 t245.length co40] 29 (0, 0)) zO3_22) : gb262 ≠ gb228))
                                have n21_ := Aside0.mk ((by rw [hg]; exact Nat.ne_of_lt (blk_lt (g := gb237) (o := .cells #[.int .i64 t232, .slice Ao48 t233.length co48] 29 (0, 0)) zO3_23) : gb237 ≠ gb262))
                                have n22_ := Aside0.mk ((by rw [hg]; exact Nat.ne_of_gt (blk_lt (g := gb237) (o := .cells #[.int .i64 t232, .slice Ao48 t233.length co48] 29 (0, 0)) zO3_23) : gb262 ≠ gb237))
                                clear HO_224001; clear HO_229001; clear HO_238001; clear HO253; clear BK208; clear BK209; clear BK223; clear BK228; clear BK237; clear HB; have HO_224001 := n0_; have HO_229001 := n1_; have HO_238001 := n2_; have HO253 := n3_; have BK208 := n4_; have BK209 := n5_; have BK223 := n6_; have BK228 := n7_; have BK237 := n8_; have HB := n9_; have BK262 := n10_; have GW262 := n11_; have GE262 := n12_; have NB208_262 := n13_; have NB262_208 := n14_; have NB209_262 := n15_; have NB262_209 := n16_; have NB223_262 := n17_; have NB262_223 := n18_; have NB228_262 := n19_; have NB262_228 := n20_; have NB237_262 := n21_; have NB262_237 := n22_; clear n0_ n1_ n2_ n3_ n4_ n5_ n6_ n7_ n8_ n9_ n10_ n11_ n12_ n13_ n14_ n15_ n16_ n17_ n18_ n19_ n20_ n21_ n22_; clear hb hbox hg
                                obtain ⟨Ao132, co132, eo132⟩ := Kd.R_slice HO253.out
                                (first | subst eo132 | (injection eo132 with f1_ f2_ f3_; have f4_ := f1_.symm; have f5_ := f3_.symm; clear f1_ f2_ f3_; subst f4_; subst f5_))
                                refine hK.out _ _ ⟨(blk_cell BK208.out 0).trans rfl, (blk_cell BK208.out 1).trans rfl, (blk_cell BK209.out 0).trans rfl, (blk_cell BK209.out 1).trans rfl, (blk_cell BK209.out 2).trans rfl⟩ (fun hHeld => ?_)
                                clear hK K
                                refine norm_ (a' := ?_) ?_ ?_
                                rotate_left
                                · show Act.put _ (some 14) _ = _
                                  simp only [Act.put, List.setIfInBounds_toArray, List.set_cons_zero, List.set_cons_succ, i64_w, i32_w]
                                  rfl
                                refine one_ (i := 4) (N := some 84) #[true, true, true, true, true, false, false, false, true, false, false] rfl rfl (one_of HT_.out (by kernel_rfl)) (by decide) (fun K hK => ?_)
                                refine goes_ Try.func22 (by kernel_rfl) rfl #[.agg #[.int .i64 t250, .slice Ao132 t251.length co132], .agg #[.int .i64 t254, .int .i64 t255, .int .i64 t256]] (by rfl) rfl rfl zO3_15 ?_
                                with_reducible refine (impl_AddClue.calls kj76 t250 _ _ t251 t254 t255 t256 t257 t258 t261 _ ?side1 ?side2 A118.out).mono ?_
                                (case side1 => repeat (first | exact (Kd.R_reads' HO253.out).2.2 | (with_reducible refine Kd.C_alloc ?_ _) | (with_reducible refine Kd.C_drewN ?_ _) | (with_reducible refine Kd.C_drew ?_)))
                                (case side2 => exact (Kd.R_reads' HO253.out).2.1)
                                rintro e w133 ⟨v259, rfl, ho0, hb⟩
                                refine ⟨_, rfl, ?_⟩
                                have n0_ := Aside0.mk (Kd.R_elder' zO3_25 (Kd.R_base ho0) hb)
                                have n1_ := Aside0.mk (Kd.R_elder' zO3_26 (Kd.R_base ho0) hb)
                                have n2_ := Aside0.mk (Kd.R_elder' zO3_27 (Kd.R_base ho0) hb)
                                have n3_ := Aside0.mk (Kd.R_elder' zO3_32 (Kd.R_base ho0) hb)
                                have n4_ := Aside0.mk (Kd.R_lower (Kd.R_new' (Kd.R_new' (Kd.R_new' (Kd.R_new' ho0 (Kd.R_lt zO3_25)) (Kd.R_lt zO3_26)) (Kd.R_lt zO3_27)) (Kd.R_lt zO3_32)) (below_size zO3_0))
                                have n5_ := Aside0.mk (blk_below (g := gb208) (o := .cells #[.int .i64 a0_0, .slice A0_1 l0_1.length c0_1] 24 (0, 0)) zO3_19 hb)
                                have n6_ := Aside0.mk (blk_below (g := gb209) (o := .cells #[.int .i64 a1_0, .int .i64 a1_1, .int .i64 a1_2] 34 (0, 0)) zO3_20 hb)
                                have n7_ := Aside0.mk (blk_below (g := gb223) (o := .cells #[.int .i64 t218, .slice Ao30 t219.length co30] 29 (0, 0)) zO3_21 hb)
                                have n8_ := Aside0.mk (blk_below (g := gb228) (o := .cells #[.int .i64 t224, .slice Ao40 t245.length co40] 29 (0, 0)) zO3_22 hb)
                                have n9_ := Aside0.mk (blk_below (g := gb237) (o := .cells #[.int .i64 t232, .slice Ao48 t233.length co48] 29 (0, 0)) zO3_23 hb)
                                have n10_ := Aside0.mk (blk_below (g := gb262) (o := .cells #[.int .i64 0, .slice none 0 0] 29 (0, 0)) zO3_24 hb)
                                have n11_ := Aside0.mk (below_step zO3_0 hb)
                                clear HO_224001; clear HO_229001; clear HO_238001; clear HO253; clear BK208; clear BK209; clear BK223; clear BK228; clear BK237; clear BK262; clear HB; have HO_224001 := n0_; have HO_229001 := n1_; have HO_238001 := n2_; have HO253 := n3_; have HO260 := n4_; have BK208 := n5_; have BK209 := n6_; have BK223 := n7_; have BK228 := n8_; have BK237 := n9_; have BK262 := n10_; have HB := n11_; clear n0_ n1_ n2_ n3_ n4_ n5_ n6_ n7_ n8_ n9_ n10_ n11_
                                (try clear hb)
                                (try clear hb2)
                                (try clear hk)
                                (try clear hi)
                                (try clear ho0)
                                refine hK.out _ _ ⟨(blk_cell BK208.out 0).trans rfl, (blk_cell BK208.out 1).trans rfl, (blk_cell BK209.out 0).trans rfl, (blk_cell BK209.out 1).trans rfl, (blk_cell BK209.out 2).trans rfl⟩ (fun hHeld => ?_)
                                clear hK K
                                refine norm_ (a' := ?_) ?_ ?_
                                rotate_left
                                · show Act.put _ (some 84) _ = _
                                  simp only [Act.put, List.setIfInBounds_toArray, List.set_cons_zero, List.set_cons_succ, i64_w, i32_w]
                                  rfl
                                refine pure_ (i := 5) (N := some 79) (v := ?_) (a' := ?_) #[true, true, true, true, true, true, false, false, true, false, false] rfl rfl (any_of HT_.out (by kernel_rfl)) (fun _ _ _ h => h) (Or.inl ⟨by rfl, ?_⟩) ?_ ?_
                                rotate_left
                                · intro w'
                                  go_simp
                                  with_reducible rfl
                                rotate_left
                                · simp only [Act.put, List.setIfInBounds_toArray, List.set_cons_zero, List.set_cons_succ, i64_w, i32_w]
                                  rfl
                                refine pure_ (i := 6) (N := some 85) (v := ?_) (a' := ?_) #[true, true, true, true, true, true, true, false, true, false, false] rfl rfl (any_of HT_.out (by kernel_rfl)) (fun _ _ _ h => h) (Or.inl ⟨by rfl, ?_⟩) ?_ ?_
                                rotate_left
                                · intro w'
                                  go_simp
                                  with_reducible rfl
                                rotate_left
                                · simp only [Act.put, List.setIfInBounds_toArray, List.set_cons_zero, List.set_cons_succ, i64_w, i32_w]
                                  rfl
                                refine pure_ (i := 7) (N := some 86) (v := ?_) (a' := ?_) #[true, true, true, true, true, true, true, true, true, false, false] rfl rfl (any_of HT_.out (by kernel_rfl)) (fun _ _ _ h => h) (Or.inl ⟨by rfl, ?_⟩) ?_ ?_
                                rotate_left
                                · intro w'
                                  go_simp
                                  with_reducible rfl
                                rotate_left
                                · simp only [Act.put, List.setIfInBounds_toArray, List.set_cons_zero, List.set_cons_succ, i64_w, i32_w]
                                  rfl
                                exact norm_ zO3_33 (hCont (.slice Ao132 t251.length co132, v259, gb262) _ ⟨hHeld, zO3_8, zO3_9, zO3_5, zO3_6, zO3_7, zO3_19, zO3_20, zO3_21, zO3_22, zO3_23, zO3_24, GW262.out, GE262.out, NB208_262.out, NB262_208.out, NB209_262.out, NB262_209.out, NB223_262.out, NB262_223.out, NB228_262.out, NB262_228.out, NB237_262.out, NB262_237.out, zO3_0⟩)
                            · skip
                              refine box_step ?hg (N := 14) ?hd (cs := #[.int .i64 0, .slice none 0 0]) (t := 29) ?hr ?_; (case hd => rfl); (case hg => rfl); (case hr => first | (go_simp; done) | (go_simp; rfl))
                              intro gb262 hg w130 hbox hb
                              have n0_ := Aside0.mk (Kd.R_below zO3_25 hb)
                              have n1_ := Aside0.mk (Kd.R_below zO3_26 hb)
                              have n2_ := Aside0.mk (Kd.R_below zO3_27 hb)
                              have n3_ := Aside0.mk (Kd.R_below zO3_32 hb)
                              have n4_ := Aside0.mk (blk_below (g := gb208) (o := .cells #[.int .i64 a0_0, .slice A0_1 l0_1.length c0_1] 24 (0, 0)) zO3_19 hb)
                              have n5_ := Aside0.mk (blk_below (g := gb209) (o := .cells #[.int .i64 a1_0, .int .i64 a1_1, .int .i64 a1_2] 34 (0, 0)) zO3_20 hb)
                              have n6_ := Aside0.mk (blk_below (g := gb223) (o := .cells #[.int .i64 t218, .slice Ao30 t219.length co30] 29 (0, 0)) zO3_21 hb)
                              have n7_ := Aside0.mk (blk_below (g := gb228) (o := .cells #[.int .i64 t224, .slice Ao40 t245.length co40] 29 (0, 0)) zO3_22 hb)
                              have n8_ := Aside0.mk (blk_below (g := gb237) (o := .cells #[.int .i64 t232, .slice Ao48 t233.length co48] 29 (0, 0)) zO3_23 hb)
                              have n9_ := Aside0.mk (below_step zO3_1 hb)
                              have n10_ := Aside0.mk (hbox)
                              have n11_ := Aside0.mk ((by rw [hg]; exact (below_size zO3_1) : w.heap.size ≤ gb262))
                              have n12_ := Aside0.mk ((by rw [hg]; exact (below_size zO3_1) : w.heap.size ≤ gb262))
                              have n13_ := Aside0.mk ((by rw [hg]; exact Nat.ne_of_lt (blk_lt (g := gb208) (o := .cells #[.int .i64 a0_0, .slice A0_1 l0_1.length c0_1] 24 (0, 0)) zO3_19) : gb208 ≠ gb262))
                              have n14_ := Aside0.mk ((by rw [hg]; exact Nat.ne_of_gt (blk_lt (g := gb208) (o := .cells #[.int .i64 a0_0, .slice A0_1 l0_1.length c0_1] 24 (0, 0)) zO3_19) : gb262 ≠ gb208))
                              have n15_ := Aside0.mk ((by rw [hg]; exact Nat.ne_of_lt (blk_lt (g := gb209) (o := .cells #[.int .i64 a1_0, .int .i64 a1_1, .int .i64 a1_2] 34 (0, 0)) zO3_20) : gb209 ≠ gb262))
                              have n16_ := Aside0.mk ((by rw [hg]; exact Nat.ne_of_gt (blk_lt (g := gb209) (o := .cells #[.int .i64 a1_0, .int .i64 a1_1, .int .i64 a1_2] 34 (0, 0)) zO3_20) : gb262 ≠ gb209))
                              have n17_ := Aside0.mk ((by rw [hg]; exact Nat.ne_of_lt (blk_lt (g := gb223) (o := .cells #[.int .i64 t218, .slice Ao30 t219.length co30] 29 (0, 0)) zO3_21) : gb223 ≠ gb262))
                              have n18_ := Aside0.mk ((by rw [hg]; exact Nat.ne_of_gt (blk_lt (g := gb223) (o := .cells #[.int .i64 t218, .slice Ao30 t219.length co30] 29 (0, 0)) zO3_21) : gb262 ≠ gb223))
                              have n19_ := Aside0.mk ((by rw [hg]; exact Nat.ne_of_lt (blk_lt (g := gb228) (o := .cells #[.int .i64 t224, .slice Ao40 t245.length co40] 29 (0, 0)) zO3_22) : gb228 ≠ gb262))
                              have n20_ := Aside0.mk ((by rw [hg]; exact Nat.ne_of_gt (blk_lt (g := gb228) (o := .cells #[.int .i64 t224, .slice Ao40 t245.length co40] 29 (0, 0)) zO3_22) : gb262 ≠ gb228))
                              have n21_ := Aside0.mk ((by rw [hg]; exact Nat.ne_of_lt (blk_lt (g := gb237) (o := .cells #[.int .i64 t232, .slice Ao48 t233.length co48] 29 (0, 0)) zO3_23) : gb237 ≠ gb262))
                              have n22_ := Aside0.mk ((by rw [hg]; exact Nat.ne_of_gt (blk_lt (g := gb237) (o := .cells #[.int .i64 t232, .slice Ao48 t233.length co48] 29 (0, 0)) zO3_23) : gb262 ≠ gb237))
                              clear HO_224001; clear HO_229001; clear HO_238001; clear HO253; clear BK208; clear BK209; clear BK223; clear BK228; clear BK237; clear HB; have HO_224001 := n0_; have HO_229001 := n1_; have HO_238001 := n2_; have HO253 := n3_; have BK208 := n4_; have BK209 := n5_; have BK223 := n6_; have BK228 := n7_; have BK237 := n8_; have HB := n9_; have BK262 := n10_; have GW262 := n11_; have GE262 := n12_; have NB208_262 := n13_; have NB262_208 := n14_; have NB209_262 := n15_; have NB262_209 := n16_; have NB223_262 := n17_; have NB262_223 := n18_; have NB228_262 := n19_; have NB262_228 := n20_; have NB237_262 := n21_; have NB262_237 := n22_; clear n0_ n1_ n2_ n3_ n4_ n5_ n6_ n7_ n8_ n9_ n10_ n11_ n12_ n13_ n14_ n15_ n16_ n17_ n18_ n19_ n20_ n21_ n22_; clear hb hbox hg
                              refine hK.out _ _ ⟨(blk_cell BK208.out 0).trans rfl, (blk_cell BK208.out 1).trans rfl, (blk_cell BK209.out 0).trans rfl, (blk_cell BK209.out 1).trans rfl, (blk_cell BK209.out 2).trans rfl⟩ (fun hHeld => ?_)
                              clear hK K
                              refine norm_ (a' := ?_) ?_ ?_
                              rotate_left
                              · show Act.put _ (some 14) _ = _
                                simp only [Act.put, List.setIfInBounds_toArray, List.set_cons_zero, List.set_cons_succ, i64_w, i32_w]
                                rfl
                              refine one_ (i := 3) (N := some 83) #[true, true, true, true, false, false, false, false, true, false, false] rfl rfl (one_of HT_.out (by kernel_rfl)) (by decide) (fun K hK => ?_)
                              refine goes_ Try.func21 (by kernel_rfl) rfl #[.agg #[.int .i64 a1_0, .int .i64 a1_1, .int .i64 a1_2]] (by rfl) rfl rfl zO3_15 ?_
                              with_reducible refine (laws_toClue.calls a1_0 a1_1 a1_2 t254 t255 t256 _ A117.out).mono ?_
                              rintro e w131 ⟨rfl, hb⟩
                              refine ⟨_, rfl, ?_⟩
                              have n0_ := Aside0.mk (Kd.R_below zO3_25 hb)
                              have n1_ := Aside0.mk (Kd.R_below zO3_26 hb)
                              have n2_ := Aside0.mk (Kd.R_below zO3_27 hb)
                              have n3_ := Aside0.mk (Kd.R_below zO3_32 hb)
                              have n4_ := Aside0.mk (blk_below (g := gb208) (o := .cells #[.int .i64 a0_0, .slice A0_1 l0_1.length c0_1] 24 (0, 0)) zO3_19 hb)
                              have n5_ := Aside0.mk (blk_below (g := gb209) (o := .cells #[.int .i64 a1_0, .int .i64 a1_1, .int .i64 a1_2] 34 (0, 0)) zO3_20 hb)
                              have n6_ := Aside0.mk (blk_below (g := gb223) (o := .cells #[.int .i64 t218, .slice Ao30 t219.length co30] 29 (0, 0)) zO3_21 hb)
                              have n7_ := Aside0.mk (blk_below (g := gb228) (o := .cells #[.int .i64 t224, .slice Ao40 t245.length co40] 29 (0, 0)) zO3_22 hb)
                              have n8_ := Aside0.mk (blk_below (g := gb237) (o := .cells #[.int .i64 t232, .slice Ao48 t233.length co48] 29 (0, 0)) zO3_23 hb)
                              have n9_ := Aside0.mk (blk_below (g := gb262) (o := .cells #[.int .i64 0, .slice none 0 0] 29 (0, 0)) zO3_24 hb)
                              have n10_ := Aside0.mk (below_step zO3_0 hb)
                              clear HO_224001; clear HO_229001; clear HO_238001; clear HO253; clear BK208; clear BK209; clear BK223; clear BK228; clear BK237; clear BK262; clear HB; have HO_224001 := n0_; have HO_229001 := n1_; have HO_238001 := n2_; have HO253 := n3_; have BK208 := n4_; have BK209 := n5_; have BK223 := n6_; have BK228 := n7_; have BK237 := n8_; have BK262 := n9_; have HB := n10_; clear n0_ n1_ n2_ n3_ n4_ n5_ n6_ n7_ n8_ n9_ n10_
                              (try clear hb)
                              (try clear hb2)
                              (try clear hk)
                              (try clear hi)
                              obtain ⟨Ao132, co132, eo132⟩ := Kd.R_slice HO253.out
                              (first | subst eo132 | (injection eo132 with f1_ f2_ f3_; have f4_ := f1_.symm; have f5_ := f3_.symm; clear f1_ f2_ f3_; subst f4_; subst f5_))
                              refine hK.out _ _ ⟨(blk_cell BK208.out 0).trans rfl, (blk_cell BK208.out 1).trans rfl, (blk_cell BK209.out 0).trans rfl, (blk_cell BK209.out 1).trans rfl, (blk_cell BK209.out 2).trans rfl⟩ (fun hHeld => ?_)
                              clear hK K
                              refine norm_ (a' := ?_) ?_ ?_
                              rotate_left
                              · show Act.put _ (some 83) _ = _
                                simp only [Act.put, List.setIfInBounds_toArray, List.set_cons_zero, List.set_cons_succ, i64_w, i32_w]
                                rfl
                              refine one_ (i := 4) (N := some 84) #[true, true, true, true, true, false, false, false, true, false, false] rfl rfl (one_of HT_.out (by kernel_rfl)) (by decide) (fun K hK => ?_)
                              refine goes_ Try.func22 (by kernel_rfl) rfl #[.agg #[.int .i64 t250, .slice Ao132 t251.length co132], .agg #[.int .i64 t254, .int .i64 t255, .int .i64 t256]] (by rfl) rfl rfl zO3_15 ?_
                              with_reducible refine (impl_AddClue.calls kj76 t250 _ _ t251 t254 t255 t256 t257 t258 t261 _ ?side1 ?side2 A118.out).mono ?_
                              (case side1 => repeat (first | exact (Kd.R_reads' HO253.out).2.2 | (with_reducible refine Kd.C_alloc ?_ _) | (with_reducible refine Kd.C_drewN ?_ _) | (with_reducible refine Kd.C_drew ?_)))
                              (case side2 => exact (Kd.R_reads' HO253.out).2.1)
                              rintro e w133 ⟨v259, rfl, ho0, hb⟩
                              refine ⟨_, rfl, ?_⟩
                              have n0_ := Aside0.mk (Kd.R_elder' zO3_25 (Kd.R_base ho0) hb)
                              have n1_ := Aside0.mk (Kd.R_elder' zO3_26 (Kd.R_base ho0) hb)
                              have n2_ := Aside0.mk (Kd.R_elder' zO3_27 (Kd.R_base ho0) hb)
                              have n3_ := Aside0.mk (Kd.R_elder' zO3_32 (Kd.R_base ho0) hb)
                              have n4_ := Aside0.mk (Kd.R_lower (Kd.R_new' (Kd.R_new' (Kd.R_new' (Kd.R_new' ho0 (Kd.R_lt zO3_25)) (Kd.R_lt zO3_26)) (Kd.R_lt zO3_27)) (Kd.R_lt zO3_32)) (below_size zO3_0))
                              have n5_ := Aside0.mk (blk_below (g := gb208) (o := .cells #[.int .i64 a0_0, .slice A0_1 l0_1.length c0_1] 24 (0, 0)) zO3_19 hb)
                              have n6_ := Aside0.mk (blk_below (g := gb209) (o := .cells #[.int .i64 a1_0, .int .i64 a1_1, .int .i64 a1_2] 34 (0, 0)) zO3_20 hb)
                              have n7_ := Aside0.mk (blk_below (g := gb223) (o := .cells #[.int .i64 t218, .slice Ao30 t219.length co30] 29 (0, 0)) zO3_21 hb)
                              have n8_ := Aside0.mk (blk_below (g := gb228) (o := .cells #[.int .i64 t224, .slice Ao40 t245.length co40] 29 (0, 0)) zO3_22 hb)
                              have n9_ := Aside0.mk (blk_below (g := gb237) (o := .cells #[.int .i64 t232, .slice Ao48 t233.length co48] 29 (0, 0)) zO3_23 hb)
                              have n10_ := Aside0.mk (blk_below (g := gb262) (o := .cells #[.int .i64 0, .slice none 0 0] 29 (0, 0)) zO3_24 hb)
                              have n11_ := Aside0.mk (below_step zO3_0 hb)
                              clear HO_224001; clear HO_229001; clear HO_238001; clear HO253; clear BK208; clear BK209; clear BK223; clear BK228; clear BK237; clear BK262; clear HB; have HO_224001 := n0_; have HO_229001 := n1_; have HO_238001 := n2_; have HO253 := n3_; have HO260 := n4_; have BK208 := n5_; have BK209 := n6_; have BK223 := n7_; have BK228 := n8_; have BK237 := n9_; have BK262 := n10_; have HB := n11_; clear n0_ n1_ n2_ n3_ n4_ n5_ n6_ n7_ n8_ n9_ n10_ n11_
                              (try clear hb)
                              (try clear hb2)
                              (try clear hk)
                              (try clear hi)
                              (try clear ho0)
                              refine hK.out _ _ ⟨(blk_cell BK208.out 0).trans rfl, (blk_cell BK208.out 1).trans rfl, (blk_cell BK209.out 0).trans rfl, (blk_cell BK209.out 1).trans rfl, (blk_cell BK209.out 2).trans rfl⟩ (fun hHeld => ?_)
                              clear hK K
                              refine norm_ (a' := ?_) ?_ ?_
                              rotate_left
                              · show Act.put _ (some 84) _ = _
                                simp only [Act.put, List.setIfInBounds_toArray, List.set_cons_zero, List.set_cons_succ, i64_w, i32_w]
                                rfl
                              refine pure_ (i := 5) (N := some 79) (v := ?_) (a' := ?_) #[true, true, true, true, true, true, false, false, true, false, false] rfl rfl (any_of HT_.out (by kernel_rfl)) (fun _ _ _ h => h) (Or.inl ⟨by rfl, ?_⟩) ?_ ?_
                              rotate_left
                              · intro w'
                                go_simp
                                with_reducible rfl
                              rotate_left
                              · simp only [Act.put, List.setIfInBounds_toArray, List.set_cons_zero, List.set_cons_succ, i64_w, i32_w]
                                rfl
                              refine pure_ (i := 6) (N := some 85) (v := ?_) (a' := ?_) #[true, true, true, true, true, true, true, false, true, false, false] rfl rfl (any_of HT_.out (by kernel_rfl)) (fun _ _ _ h => h) (Or.inl ⟨by rfl, ?_⟩) ?_ ?_
                              rotate_left
                              · intro w'
                                go_simp
                                with_reducible rfl
                              rotate_left
                              · simp only [Act.put, List.setIfInBounds_toArray, List.set_cons_zero, List.set_cons_succ, i64_w, i32_w]
                                rfl
                              refine pure_ (i := 7) (N := some 86) (v := ?_) (a' := ?_) #[true, true, true, true, true, true, true, true, true, false, false] rfl rfl (any_of HT_.out (by kernel_rfl)) (fun _ _ _ h => h) (Or.inl ⟨by rfl, ?_⟩) ?_ ?_
                              rotate_left
                              · intro w'
                                go_simp
                                with_reducible rfl
                              rotate_left
                              · simp only [Act.put, List.setIfInBounds_toArray, List.set_cons_zero, List.set_cons_succ, i64_w, i32_w]
                                rfl
                              exact norm_ zO3_33 (hCont (.slice Ao132 t251.length co132, v259, gb262) _ ⟨hHeld, zO3_8, zO3_9, zO3_5, zO3_6, zO3_7, zO3_19, zO3_20, zO3_21, zO3_22, zO3_23, zO3_24, GW262.out, GE262.out, NB208_262.out, NB262_208.out, NB209_262.out, NB262_209.out, NB223_262.out, NB262_223.out, NB228_262.out, NB262_228.out, NB237_262.out, NB262_237.out, zO3_0⟩)
                          · skip
                            refine box_step ?hg (N := 14) ?hd (cs := #[.int .i64 0, .slice none 0 0]) (t := 29) ?hr ?_; (case hd => rfl); (case hg => rfl); (case hr => first | (go_simp; done) | (go_simp; rfl))
                            intro gb262 hg w129 hbox hb
                            have n0_ := Aside0.mk (Kd.R_below zO3_25 hb)
                            have n1_ := Aside0.mk (Kd.R_below zO3_26 hb)
                            have n2_ := Aside0.mk (Kd.R_below zO3_27 hb)
                            have n3_ := Aside0.mk (blk_below (g := gb208) (o := .cells #[.int .i64 a0_0, .slice A0_1 l0_1.length c0_1] 24 (0, 0)) zO3_19 hb)
                            have n4_ := Aside0.mk (blk_below (g := gb209) (o := .cells #[.int .i64 a1_0, .int .i64 a1_1, .int .i64 a1_2] 34 (0, 0)) zO3_20 hb)
                            have n5_ := Aside0.mk (blk_below (g := gb223) (o := .cells #[.int .i64 t218, .slice Ao30 t219.length co30] 29 (0, 0)) zO3_21 hb)
                            have n6_ := Aside0.mk (blk_below (g := gb228) (o := .cells #[.int .i64 t224, .slice Ao40 t245.length co40] 29 (0, 0)) zO3_22 hb)
                            have n7_ := Aside0.mk (blk_below (g := gb237) (o := .cells #[.int .i64 t232, .slice Ao48 t233.length co48] 29 (0, 0)) zO3_23 hb)
                            have n8_ := Aside0.mk (below_step zO3_1 hb)
                            have n9_ := Aside0.mk (hbox)
                            have n10_ := Aside0.mk ((by rw [hg]; exact (below_size zO3_1) : w.heap.size ≤ gb262))
                            have n11_ := Aside0.mk ((by rw [hg]; exact (below_size zO3_1) : w.heap.size ≤ gb262))
                            have n12_ := Aside0.mk ((by rw [hg]; exact Nat.ne_of_lt (blk_lt (g := gb208) (o := .cells #[.int .i64 a0_0, .slice A0_1 l0_1.length c0_1] 24 (0, 0)) zO3_19) : gb208 ≠ gb262))
                            have n13_ := Aside0.mk ((by rw [hg]; exact Nat.ne_of_gt (blk_lt (g := gb208) (o := .cells #[.int .i64 a0_0, .slice A0_1 l0_1.length c0_1] 24 (0, 0)) zO3_19) : gb262 ≠ gb208))
                            have n14_ := Aside0.mk ((by rw [hg]; exact Nat.ne_of_lt (blk_lt (g := gb209) (o := .cells #[.int .i64 a1_0, .int .i64 a1_1, .int .i64 a1_2] 34 (0, 0)) zO3_20) : gb209 ≠ gb262))
                            have n15_ := Aside0.mk ((by rw [hg]; exact Nat.ne_of_gt (blk_lt (g := gb209) (o := .cells #[.int .i64 a1_0, .int .i64 a1_1, .int .i64 a1_2] 34 (0, 0)) zO3_20) : gb262 ≠ gb209))
                            have n16_ := Aside0.mk ((by rw [hg]; exact Nat.ne_of_lt (blk_lt (g := gb223) (o := .cells #[.int .i64 t218, .slice Ao30 t219.length co30] 29 (0, 0)) zO3_21) : gb223 ≠ gb262))
                            have n17_ := Aside0.mk ((by rw [hg]; exact Nat.ne_of_gt (blk_lt (g := gb223) (o := .cells #[.int .i64 t218, .slice Ao30 t219.length co30] 29 (0, 0)) zO3_21) : gb262 ≠ gb223))
                            have n18_ := Aside0.mk ((by rw [hg]; exact Nat.ne_of_lt (blk_lt (g := gb228) (o := .cells #[.int .i64 t224, .slice Ao40 t245.length co40] 29 (0, 0)) zO3_22) : gb228 ≠ gb262))
                            have n19_ := Aside0.mk ((by rw [hg]; exact Nat.ne_of_gt (blk_lt (g := gb228) (o := .cells #[.int .i64 t224, .slice Ao40 t245.length co40] 29 (0, 0)) zO3_22) : gb262 ≠ gb228))
                            have n20_ := Aside0.mk ((by rw [hg]; exact Nat.ne_of_lt (blk_lt (g := gb237) (o := .cells #[.int .i64 t232, .slice Ao48 t233.length co48] 29 (0, 0)) zO3_23) : gb237 ≠ gb262))
                            have n21_ := Aside0.mk ((by rw [hg]; exact Nat.ne_of_gt (blk_lt (g := gb237) (o := .cells #[.int .i64 t232, .slice Ao48 t233.length co48] 29 (0, 0)) zO3_23) : gb262 ≠ gb237))
                            clear HO_224001; clear HO_229001; clear HO_238001; clear BK208; clear BK209; clear BK223; clear BK228; clear BK237; clear HB; have HO_224001 := n0_; have HO_229001 := n1_; have HO_238001 := n2_; have BK208 := n3_; have BK209 := n4_; have BK223 := n5_; have BK228 := n6_; have BK237 := n7_; have HB := n8_; have BK262 := n9_; have GW262 := n10_; have GE262 := n11_; have NB208_262 := n12_; have NB262_208 := n13_; have NB209_262 := n14_; have NB262_209 := n15_; have NB223_262 := n16_; have NB262_223 := n17_; have NB228_262 := n18_; have NB262_228 := n19_; have NB237_262 := n20_; have NB262_237 := n21_; clear n0_ n1_ n2_ n3_ n4_ n5_ n6_ n7_ n8_ n9_ n10_ n11_ n12_ n13_ n14_ n15_ n16_ n17_ n18_ n19_ n20_ n21_; clear hb hbox hg
                            refine hK.out _ _ ⟨(blk_cell BK208.out 0).trans rfl, (blk_cell BK208.out 1).trans rfl, (blk_cell BK209.out 0).trans rfl, (blk_cell BK209.out 1).trans rfl, (blk_cell BK209.out 2).trans rfl⟩ (fun hHeld => ?_)
                            clear hK K
                            refine norm_ (a' := ?_) ?_ ?_
                            rotate_left
                            · show Act.put _ (some 14) _ = _
                              simp only [Act.put, List.setIfInBounds_toArray, List.set_cons_zero, List.set_cons_succ, i64_w, i32_w]
                              rfl
                            refine one_ (i := 1) (N := some 81) #[true, true, true, false, false, false, false, false, true, false, false] rfl rfl (one_of HT_.out (by kernel_rfl)) (by decide) (fun K hK => ?_)
                            refine goes_ Try.func17 (by kernel_rfl) rfl #[.agg #[.int .i64 a0_0, .slice A0_1 l0_1.length c0_1]] (by rfl) rfl rfl zO3_15 ?_
                            with_reducible refine (laws_toPuzzle.calls kj76 a0_0 _ _ l0_1 t250 t251 _ ?side1 ?side2 A116.out).mono ?_
                            (case side1 => repeat (first | exact (Kd.C_below HR0_1.out HB.out) | (with_reducible refine Kd.C_alloc ?_ _) | (with_reducible refine Kd.C_drewN ?_ _) | (with_reducible refine Kd.C_drew ?_)))
                            (case side2 => exact HC0_1.out)
                            rintro e w130 ⟨v252, rfl, ho0, hb⟩
                            refine ⟨_, rfl, ?_⟩
                            have n0_ := Aside0.mk (Kd.R_elder' zO3_25 (Kd.R_base ho0) hb)
                            have n1_ := Aside0.mk (Kd.R_elder' zO3_26 (Kd.R_base ho0) hb)
                            have n2_ := Aside0.mk (Kd.R_elder' zO3_27 (Kd.R_base ho0) hb)
                            have n3_ := Aside0.mk (Kd.R_lower (Kd.R_new' (Kd.R_new' (Kd.R_new' ho0 (Kd.R_lt zO3_25)) (Kd.R_lt zO3_26)) (Kd.R_lt zO3_27)) (below_size zO3_0))
                            have n4_ := Aside0.mk (blk_below (g := gb208) (o := .cells #[.int .i64 a0_0, .slice A0_1 l0_1.length c0_1] 24 (0, 0)) zO3_19 hb)
                            have n5_ := Aside0.mk (blk_below (g := gb209) (o := .cells #[.int .i64 a1_0, .int .i64 a1_1, .int .i64 a1_2] 34 (0, 0)) zO3_20 hb)
                            have n6_ := Aside0.mk (blk_below (g := gb223) (o := .cells #[.int .i64 t218, .slice Ao30 t219.length co30] 29 (0, 0)) zO3_21 hb)
                            have n7_ := Aside0.mk (blk_below (g := gb228) (o := .cells #[.int .i64 t224, .slice Ao40 t245.length co40] 29 (0, 0)) zO3_22 hb)
                            have n8_ := Aside0.mk (blk_below (g := gb237) (o := .cells #[.int .i64 t232, .slice Ao48 t233.length co48] 29 (0, 0)) zO3_23 hb)
                            have n9_ := Aside0.mk (blk_below (g := gb262) (o := .cells #[.int .i64 0, .slice none 0 0] 29 (0, 0)) zO3_24 hb)
                            have n10_ := Aside0.mk (below_step zO3_0 hb)
                            clear HO_224001; clear HO_229001; clear HO_238001; clear BK208; clear BK209; clear BK223; clear BK228; clear BK237; clear BK262; clear HB; have HO_224001 := n0_; have HO_229001 := n1_; have HO_238001 := n2_; have HO253 := n3_; have BK208 := n4_; have BK209 := n5_; have BK223 := n6_; have BK228 := n7_; have BK237 := n8_; have BK262 := n9_; have HB := n10_; clear n0_ n1_ n2_ n3_ n4_ n5_ n6_ n7_ n8_ n9_ n10_
                            (try clear hb)
                            (try clear hb2)
                            (try clear hk)
                            (try clear hi)
                            (try clear ho0)
                            refine hK.out _ _ ⟨(blk_cell BK208.out 0).trans rfl, (blk_cell BK208.out 1).trans rfl, (blk_cell BK209.out 0).trans rfl, (blk_cell BK209.out 1).trans rfl, (blk_cell BK209.out 2).trans rfl⟩ (fun hHeld => ?_)
                            clear hK K
                            refine norm_ (a' := ?_) ?_ ?_
                            rotate_left
                            · show Act.put _ (some 81) _ = _
                              simp only [Act.put, List.setIfInBounds_toArray, List.set_cons_zero, List.set_cons_succ, i64_w, i32_w]
                              rfl
                            refine one_ (i := 3) (N := some 83) #[true, true, true, true, false, false, false, false, true, false, false] rfl rfl (one_of HT_.out (by kernel_rfl)) (by decide) (fun K hK => ?_)
                            refine goes_ Try.func21 (by kernel_rfl) rfl #[.agg #[.int .i64 a1_0, .int .i64 a1_1, .int .i64 a1_2]] (by rfl) rfl rfl zO3_15 ?_
                            with_reducible refine (laws_toClue.calls a1_0 a1_1 a1_2 t254 t255 t256 _ A117.out).mono ?_
                            rintro e w131 ⟨rfl, hb⟩
                            refine ⟨_, rfl, ?_⟩
                            have n0_ := Aside0.mk (Kd.R_below zO3_25 hb)
                            have n1_ := Aside0.mk (Kd.R_below zO3_26 hb)
                            have n2_ := Aside0.mk (Kd.R_below zO3_27 hb)
                            have n3_ := Aside0.mk (Kd.R_below zO3_32 hb)
                            have n4_ := Aside0.mk (blk_below (g := gb208) (o := .cells #[.int .i64 a0_0, .slice A0_1 l0_1.length c0_1] 24 (0, 0)) zO3_19 hb)
                            have n5_ := Aside0.mk (blk_below (g := gb209) (o := .cells #[.int .i64 a1_0, .int .i64 a1_1, .int .i64 a1_2] 34 (0, 0)) zO3_20 hb)
                            have n6_ := Aside0.mk (blk_below (g := gb223) (o := .cells #[.int .i64 t218, .slice Ao30 t219.length co30] 29 (0, 0)) zO3_21 hb)
                            have n7_ := Aside0.mk (blk_below (g := gb228) (o := .cells #[.int .i64 t224, .slice Ao40 t245.length co40] 29 (0, 0)) zO3_22 hb)
                            have n8_ := Aside0.mk (blk_below (g := gb237) (o := .cells #[.int .i64 t232, .slice Ao48 t233.length co48] 29 (0, 0)) zO3_23 hb)
                            have n9_ := Aside0.mk (blk_below (g := gb262) (o := .cells #[.int .i64 0, .slice none 0 0] 29 (0, 0)) zO3_24 hb)
                            have n10_ := Aside0.mk (below_step zO3_0 hb)
                            clear HO_224001; clear HO_229001; clear HO_238001; clear HO253; clear BK208; clear BK209; clear BK223; clear BK228; clear BK237; clear BK262; clear HB; have HO_224001 := n0_; have HO_229001 := n1_; have HO_238001 := n2_; have HO253 := n3_; have BK208 := n4_; have BK209 := n5_; have BK223 := n6_; have BK228 := n7_; have BK237 := n8_; have BK262 := n9_; have HB := n10_; clear n0_ n1_ n2_ n3_ n4_ n5_ n6_ n7_ n8_ n9_ n10_
                            (try clear hb)
                            (try clear hb2)
                            (try clear hk)
                            (try clear hi)
                            obtain ⟨Ao132, co132, eo132⟩ := Kd.R_slice HO253.out
                            (first | subst eo132 | (injection eo132 with f1_ f2_ f3_; have f4_ := f1_.symm; have f5_ := f3_.symm; clear f1_ f2_ f3_; subst f4_; subst f5_))
                            refine hK.out _ _ ⟨(blk_cell BK208.out 0).trans rfl, (blk_cell BK208.out 1).trans rfl, (blk_cell BK209.out 0).trans rfl, (blk_cell BK209.out 1).trans rfl, (blk_cell BK209.out 2).trans rfl⟩ (fun hHeld => ?_)
                            clear hK K
                            refine norm_ (a' := ?_) ?_ ?_
                            rotate_left
                            · show Act.put _ (some 83) _ = _
                              simp only [Act.put, List.setIfInBounds_toArray, List.set_cons_zero, List.set_cons_succ, i64_w, i32_w]
                              rfl
                            refine one_ (i := 4) (N := some 84) #[true, true, true, true, true, false, false, false, true, false, false] rfl rfl (one_of HT_.out (by kernel_rfl)) (by decide) (fun K hK => ?_)
                            refine goes_ Try.func22 (by kernel_rfl) rfl #[.agg #[.int .i64 t250, .slice Ao132 t251.length co132], .agg #[.int .i64 t254, .int .i64 t255, .int .i64 t256]] (by rfl) rfl rfl zO3_15 ?_
                            with_reducible refine (impl_AddClue.calls kj76 t250 _ _ t251 t254 t255 t256 t257 t258 t261 _ ?side1 ?side2 A118.out).mono ?_
                            (case side1 => repeat (first | exact (Kd.R_reads' HO253.out).2.2 | (with_reducible refine Kd.C_alloc ?_ _) | (with_reducible refine Kd.C_drewN ?_ _) | (with_reducible refine Kd.C_drew ?_)))
                            (case side2 => exact (Kd.R_reads' HO253.out).2.1)
                            rintro e w133 ⟨v259, rfl, ho0, hb⟩
                            refine ⟨_, rfl, ?_⟩
                            have n0_ := Aside0.mk (Kd.R_elder' zO3_25 (Kd.R_base ho0) hb)
                            have n1_ := Aside0.mk (Kd.R_elder' zO3_26 (Kd.R_base ho0) hb)
                            have n2_ := Aside0.mk (Kd.R_elder' zO3_27 (Kd.R_base ho0) hb)
                            have n3_ := Aside0.mk (Kd.R_elder' zO3_32 (Kd.R_base ho0) hb)
                            have n4_ := Aside0.mk (Kd.R_lower (Kd.R_new' (Kd.R_new' (Kd.R_new' (Kd.R_new' ho0 (Kd.R_lt zO3_25)) (Kd.R_lt zO3_26)) (Kd.R_lt zO3_27)) (Kd.R_lt zO3_32)) (below_size zO3_0))
                            have n5_ := Aside0.mk (blk_below (g := gb208) (o := .cells #[.int .i64 a0_0, .slice A0_1 l0_1.length c0_1] 24 (0, 0)) zO3_19 hb)
                            have n6_ := Aside0.mk (blk_below (g := gb209) (o := .cells #[.int .i64 a1_0, .int .i64 a1_1, .int .i64 a1_2] 34 (0, 0)) zO3_20 hb)
                            have n7_ := Aside0.mk (blk_below (g := gb223) (o := .cells #[.int .i64 t218, .slice Ao30 t219.length co30] 29 (0, 0)) zO3_21 hb)
                            have n8_ := Aside0.mk (blk_below (g := gb228) (o := .cells #[.int .i64 t224, .slice Ao40 t245.length co40] 29 (0, 0)) zO3_22 hb)
                            have n9_ := Aside0.mk (blk_below (g := gb237) (o := .cells #[.int .i64 t232, .slice Ao48 t233.length co48] 29 (0, 0)) zO3_23 hb)
                            have n10_ := Aside0.mk (blk_below (g := gb262) (o := .cells #[.int .i64 0, .slice none 0 0] 29 (0, 0)) zO3_24 hb)
                            have n11_ := Aside0.mk (below_step zO3_0 hb)
                            clear HO_224001; clear HO_229001; clear HO_238001; clear HO253; clear BK208; clear BK209; clear BK223; clear BK228; clear BK237; clear BK262; clear HB; have HO_224001 := n0_; have HO_229001 := n1_; have HO_238001 := n2_; have HO253 := n3_; have HO260 := n4_; have BK208 := n5_; have BK209 := n6_; have BK223 := n7_; have BK228 := n8_; have BK237 := n9_; have BK262 := n10_; have HB := n11_; clear n0_ n1_ n2_ n3_ n4_ n5_ n6_ n7_ n8_ n9_ n10_ n11_
                            (try clear hb)
                            (try clear hb2)
                            (try clear hk)
                            (try clear hi)
                            (try clear ho0)
                            refine hK.out _ _ ⟨(blk_cell BK208.out 0).trans rfl, (blk_cell BK208.out 1).trans rfl, (blk_cell BK209.out 0).trans rfl, (blk_cell BK209.out 1).trans rfl, (blk_cell BK209.out 2).trans rfl⟩ (fun hHeld => ?_)
                            clear hK K
                            refine norm_ (a' := ?_) ?_ ?_
                            rotate_left
                            · show Act.put _ (some 84) _ = _
                              simp only [Act.put, List.setIfInBounds_toArray, List.set_cons_zero, List.set_cons_succ, i64_w, i32_w]
                              rfl
                            refine pure_ (i := 5) (N := some 79) (v := ?_) (a' := ?_) #[true, true, true, true, true, true, false, false, true, false, false] rfl rfl (any_of HT_.out (by kernel_rfl)) (fun _ _ _ h => h) (Or.inl ⟨by rfl, ?_⟩) ?_ ?_
                            rotate_left
                            · intro w'
                              go_simp
                              with_reducible rfl
                            rotate_left
                            · simp only [Act.put, List.setIfInBounds_toArray, List.set_cons_zero, List.set_cons_succ, i64_w, i32_w]
                              rfl
                            refine pure_ (i := 6) (N := some 85) (v := ?_) (a' := ?_) #[true, true, true, true, true, true, true, false, true, false, false] rfl rfl (any_of HT_.out (by kernel_rfl)) (fun _ _ _ h => h) (Or.inl ⟨by rfl, ?_⟩) ?_ ?_
                            rotate_left
                            · intro w'
                              go_simp
                              with_reducible rfl
                            rotate_left
                            · simp only [Act.put, List.setIfInBounds_toArray, List.set_cons_zero, List.set_cons_succ, i64_w, i32_w]
                              rfl
                            refine pure_ (i := 7) (N := some 86) (v := ?_) (a' := ?_) #[true, true, true, true, true, true, true, true, true, false, false] rfl rfl (any_of HT_.out (by kernel_rfl)) (fun _ _ _ h => h) (Or.inl ⟨by rfl, ?_⟩) ?_ ?_
                            rotate_left
                            · intro w'
                              go_simp
                              with_reducible rfl
                            rotate_left
                            · simp only [Act.put, List.setIfInBounds_toArray, List.set_cons_zero, List.set_cons_succ, i64_w, i32_w]
                              rfl
                            exact norm_ zO3_33 (hCont (.slice Ao132 t251.length co132, v259, gb262) _ ⟨hHeld, zO3_8, zO3_9, zO3_5, zO3_6, zO3_7, zO3_19, zO3_20, zO3_21, zO3_22, zO3_23, zO3_24, GW262.out, GE262.out, NB208_262.out, NB262_208.out, NB209_262.out, NB262_209.out, NB223_262.out, NB262_223.out, NB228_262.out, NB262_228.out, NB237_262.out, NB262_237.out, zO3_0⟩)
                        rintro ⟨v252, v259, gb262⟩ w134 ⟨hS_, h0_, h1_, h2_, h3_, h4_, h5_, h6_, h7_, h8_, h9_, h10_, h11_, h12_, h13_, h14_, h15_, h16_, h17_, h18_, h19_, h20_, h21_, h22_, h23_⟩
                        have n0_ : Aside0 (Kd.R k37 37 w134 w.heap.size (fun k_ => some k_ ≠ (v259 : Value).ownBlock ∧ some k_ ≠ (.slice Ao30 t219.length co30 : Value).ownBlock ∧ some k_ ≠ (.slice Ao40 t245.length co40 : Value).ownBlock ∧ some k_ ≠ (.slice Ao48 t233.length co48 : Value).ownBlock) v252 t251) := ⟨h0_⟩
                        have n1_ : Aside0 (Kd.R k37 37 w134 w.heap.size (fun k_ => some k_ ≠ (v252 : Value).ownBlock ∧ some k_ ≠ (.slice Ao30 t219.length co30 : Value).ownBlock ∧ some k_ ≠ (.slice Ao40 t245.length co40 : Value).ownBlock ∧ some k_ ≠ (.slice Ao48 t233.length co48 : Value).ownBlock) v259 t258) := ⟨h1_⟩
                        have n2_ : Aside0 (Kd.R k37 37 w134 w.heap.size (fun k_ => some k_ ≠ (v252 : Value).ownBlock ∧ some k_ ≠ (v259 : Value).ownBlock ∧ some k_ ≠ (.slice Ao40 t245.length co40 : Value).ownBlock ∧ some k_ ≠ (.slice Ao48 t233.length co48 : Value).ownBlock) (.slice Ao30 t219.length co30) t219) := ⟨h2_⟩
                        have n3_ : Aside0 (Kd.R k37 37 w134 w.heap.size (fun k_ => some k_ ≠ (v252 : Value).ownBlock ∧ some k_ ≠ (v259 : Value).ownBlock ∧ some k_ ≠ (.slice Ao30 t219.length co30 : Value).ownBlock ∧ some k_ ≠ (.slice Ao48 t233.length co48 : Value).ownBlock) (.slice Ao40 t245.length co40) t245) := ⟨h3_⟩
                        have n4_ : Aside0 (Kd.R k37 37 w134 w.heap.size (fun k_ => some k_ ≠ (v252 : Value).ownBlock ∧ some k_ ≠ (v259 : Value).ownBlock ∧ some k_ ≠ (.slice Ao30 t219.length co30 : Value).ownBlock ∧ some k_ ≠ (.slice Ao40 t245.length co40 : Value).ownBlock) (.slice Ao48 t233.length co48) t248) := ⟨h4_⟩
                        have n5_ : Aside0 (w134.heap[gb208]? = some (.cells #[.int .i64 a0_0, .slice A0_1 l0_1.length c0_1] 24 (0, 0))) := ⟨h5_⟩
                        have n6_ : Aside0 (w134.heap[gb209]? = some (.cells #[.int .i64 a1_0, .int .i64 a1_1, .int .i64 a1_2] 34 (0, 0))) := ⟨h6_⟩
                        have n7_ : Aside0 (w134.heap[gb223]? = some (.cells #[.int .i64 t218, .slice Ao30 t219.length co30] 29 (0, 0))) := ⟨h7_⟩
                        have n8_ : Aside0 (w134.heap[gb228]? = some (.cells #[.int .i64 t224, .slice Ao40 t245.length co40] 29 (0, 0))) := ⟨h8_⟩
                        have n9_ : Aside0 (w134.heap[gb237]? = some (.cells #[.int .i64 t232, .slice Ao48 t233.length co48] 29 (0, 0))) := ⟨h9_⟩
                        have n10_ : Aside0 (w134.heap[gb262]? = some (.cells #[.int .i64 0, .slice none 0 0] 29 (0, 0))) := ⟨h10_⟩
                        have n11_ : Aside0 (w.heap.size ≤ gb262) := ⟨h11_⟩
                        have n12_ : Aside0 (w.heap.size ≤ gb262) := ⟨h12_⟩
                        have n13_ : Aside0 (gb208 ≠ gb262) := ⟨h13_⟩
                        have n14_ : Aside0 (gb262 ≠ gb208) := ⟨h14_⟩
                        have n15_ : Aside0 (gb209 ≠ gb262) := ⟨h15_⟩
                        have n16_ : Aside0 (gb262 ≠ gb209) := ⟨h16_⟩
                        have n17_ : Aside0 (gb223 ≠ gb262) := ⟨h17_⟩
                        have n18_ : Aside0 (gb262 ≠ gb223) := ⟨h18_⟩
                        have n19_ : Aside0 (gb228 ≠ gb262) := ⟨h19_⟩
                        have n20_ : Aside0 (gb262 ≠ gb228) := ⟨h20_⟩
                        have n21_ : Aside0 (gb237 ≠ gb262) := ⟨h21_⟩
                        have n22_ : Aside0 (gb262 ≠ gb237) := ⟨h22_⟩
                        have n23_ : Aside0 (Below w.heap.size w w134) := ⟨h23_⟩
                        clear HO_224001; clear HO_229001; clear HO_238001; clear BK208; clear BK209; clear BK223; clear BK228; clear BK237; clear HB; clear h0_ h1_ h2_ h3_ h4_ h5_ h6_ h7_ h8_ h9_ h10_ h11_ h12_ h13_ h14_ h15_ h16_ h17_ h18_ h19_ h20_ h21_ h22_ h23_; have HO253 := n0_; have HO260 := n1_; have HO_224001 := n2_; have HO_229001 := n3_; have HO_238001 := n4_; have BK208 := n5_; have BK209 := n6_; have BK223 := n7_; have BK228 := n8_; have BK237 := n9_; have BK262 := n10_; have GW262 := n11_; have GE262 := n12_; have NB208_262 := n13_; have NB262_208 := n14_; have NB209_262 := n15_; have NB262_209 := n16_; have NB223_262 := n17_; have NB262_223 := n18_; have NB228_262 := n19_; have NB262_228 := n20_; have NB237_262 := n21_; have NB262_237 := n22_; have HB := n23_; clear n0_ n1_ n2_ n3_ n4_ n5_ n6_ n7_ n8_ n9_ n10_ n11_ n12_ n13_ n14_ n15_ n16_ n17_ n18_ n19_ n20_ n21_ n22_ n23_
                        have hHeld : w134.cell? ⟨gb208, 0, none⟩ = some (.int .i64 a0_0) ∧ w134.cell? ⟨gb208, 1, none⟩ = some (.slice A0_1 l0_1.length c0_1) ∧ w134.cell? ⟨gb209, 0, none⟩ = some (.int .i64 a1_0) ∧ w134.cell? ⟨gb209, 1, none⟩ = some (.int .i64 a1_1) ∧ w134.cell? ⟨gb209, 2, none⟩ = some (.int .i64 a1_2) := hS_
                        obtain ⟨Ao136, co136, eo136⟩ := Kd.R_slice HO260.out
                        (first | subst eo136 | (injection eo136 with f1_ f2_ f3_; have f4_ := f1_.symm; have f5_ := f3_.symm; clear f1_ f2_ f3_; subst f4_; subst f5_))
                        refine norm_ (a' := ?_) ?_ ?_
                        rotate_left
                        · simp only [putAll, Act.put, List.setIfInBounds_toArray, List.set_cons_zero, List.set_cons_succ]
                          rfl
                        refine one_ (i := 9) (N := none) #[true, true, true, true, true, true, true, true, true, true, false] rfl rfl (one_of HT_.out (by kernel_rfl)) (by decide) (fun K hK => ?_)
                        have hs135 : w134.cell? ⟨gb262, 0, none⟩ = some (.int .i64 0) := (blk_cell BK262.out 0).trans rfl
                        have hfs135 := blk_frozen BK262.out 0
                        have hns135_0 := NB208_262.out; have hns135_1 := NB209_262.out; have hns135_2 := NB223_262.out; have hns135_3 := NB228_262.out; have hns135_4 := NB237_262.out; have hms135_0 := NB262_208.out; have hms135_1 := NB262_209.out; have hms135_2 := NB262_223.out; have hms135_3 := NB262_228.out; have hms135_4 := NB262_237.out
                        have hs137 : w134.cell? ⟨gb262, 1, none⟩ = some (.slice none 0 0) := (blk_cell BK262.out 1).trans rfl
                        have hfs137 := blk_frozen BK262.out 1
                        have hns137_0 := NB208_262.out; have hns137_1 := NB209_262.out; have hns137_2 := NB223_262.out; have hns137_3 := NB228_262.out; have hns137_4 := NB237_262.out; have hms137_0 := NB262_208.out; have hms137_1 := NB262_209.out; have hms137_2 := NB262_223.out; have hms137_3 := NB262_228.out; have hms137_4 := NB262_237.out
                        refine skip_ (w1 := ?_) (by rfl) rfl ?_ ?_
                        rotate_left
                        · go_simp
                          rfl
                        refine hK.out _ _ ⟨((cell_far (p := ⟨gb262, _, none⟩) NB208_262.out _).trans (((cell_far (p := ⟨gb262, _, none⟩) NB208_262.out _).trans (hHeld.1)))), ((cell_far (p := ⟨gb262, _, none⟩) NB208_262.out _).trans (((cell_far (p := ⟨gb262, _, none⟩) NB208_262.out _).trans (hHeld.2.1)))), ((cell_far (p := ⟨gb262, _, none⟩) NB209_262.out _).trans (((cell_far (p := ⟨gb262, _, none⟩) NB209_262.out _).trans (hHeld.2.2.1)))), ((cell_far (p := ⟨gb262, _, none⟩) NB209_262.out _).trans (((cell_far (p := ⟨gb262, _, none⟩) NB209_262.out _).trans (hHeld.2.2.2.1)))), ((cell_far (p := ⟨gb262, _, none⟩) NB209_262.out _).trans (((cell_far (p := ⟨gb262, _, none⟩) NB209_262.out _).trans (hHeld.2.2.2.2))))⟩ (fun hHeld => ?_)
                        clear hK K
                        refine pure_ (i := 10) (N := some 15) (v := ?_) (a' := ?_) #[true, true, true, true, true, true, true, true, true, true, true] rfl rfl (any_of HT_.out (by kernel_rfl)) (fun _ _ _ h => h) (Or.inl ⟨by rfl, ?_⟩) ?_ ?_
                        rotate_left
                        · intro w'
                          go_simp
                          with_reducible rfl
                        rotate_left
                        · simp only [Act.put, List.setIfInBounds_toArray, List.set_cons_zero, List.set_cons_succ, i64_w, i32_w]
                          rfl
                        refine done_ (done_of HT_.out (by kernel_rfl)) ?_
                        go_upto_region 25 with (fail)
                        go_cut [95] (fun v95 wc => ∃ (kq : Nat) (x95_118 : Bool), v95 = .bool x95_118 ∧ Aside0 (laws_FnExactAddClue.j2 kq t247 x95_118 t232 t248 = some r) ∧ Aside0 (kq ≤ kj76) ∧ Aside0 (Kd.R k37 37 wc w.heap.size (fun k_ => some k_ ≠ ((.slice Ao40 t245.length co40) : Value).ownBlock ∧ some k_ ≠ ((.slice Ao48 t233.length co48) : Value).ownBlock ∧ some k_ ≠ ((.slice Ao136 t258.length co136) : Value).ownBlock) (.slice Ao30 t219.length co30) t219) ∧ Aside0 (Kd.R k37 37 wc w.heap.size (fun k_ => some k_ ≠ ((.slice Ao30 t219.length co30) : Value).ownBlock ∧ some k_ ≠ ((.slice Ao48 t233.length co48) : Value).ownBlock ∧ some k_ ≠ ((.slice Ao136 t258.length co136) : Value).ownBlock) (.slice Ao40 t245.length co40) t245) ∧ Aside0 (Kd.R k37 37 wc w.heap.size (fun k_ => some k_ ≠ ((.slice Ao30 t219.length co30) : Value).ownBlock ∧ some k_ ≠ ((.slice Ao40 t245.length co40) : Value).ownBlock ∧ some k_ ≠ ((.slice Ao136 t258.length co136) : Value).ownBlock) (.slice Ao48 t233.length co48) t248) ∧ Aside0 (Kd.R k37 37 wc w.heap.size (fun k_ => some k_ ≠ ((.slice Ao30 t219.length co30) : Value).ownBlock ∧ some k_ ≠ ((.slice Ao40 t245.length co40) : Value).ownBlock ∧ some k_ ≠ ((.slice Ao48 t233.length co48) : Value).ownBlock) (.slice Ao136 t258.length co136) t258) ∧ Aside0 (wc.heap[gb208]? = some (.cells #[.int .i64 a0_0, (.slice A0_1 l0_1.length c0_1)] 24 (0, 0))) ∧ Aside0 (wc.heap[gb209]? = some (.cells #[.int .i64 a1_0, .int .i64 a1_1, .int .i64 a1_2] 34 (0, 0))) ∧ Aside0 (wc.heap[gb223]? = some (.cells #[.int .i64 t218, (.slice Ao30 t219.length co30)] 29 (0, 0))) ∧ Aside0 (wc.heap[gb228]? = some (.cells #[.int .i64 t224, (.slice Ao40 t245.length co40)] 29 (0, 0))) ∧ Aside0 (wc.heap[gb237]? = some (.cells #[.int .i64 t232, (.slice Ao48 t233.length co48)] 29 (0, 0))) ∧ Aside0 (wc.heap[gb262]? = some (.cells #[.int .i64 t257, (.slice Ao136 t258.length co136)] 29 (0, 0))) ∧ Aside0 (Below w.heap.size w wc))
                        case first =>
                         as_aux_lemma =>
                           have H := HC119.out; clear HC119; replace H := Option.bind_eq_some_iff.mp H
                           obtain ⟨t263, A1380, H⟩ := H
                           replace H : (if t263 = true then (laws_FnExactAddClue.j2 kj76 t247 (t261 != t222) t232 t248) else (laws_FnExactAddClue.j2 kj76 t247 true t232 t248)) = some r := H
                           have A138 := Aside0.mk A1380
                           clear A1380
                           by_cases c139 : t263 = true
                           · subst c139
                             have H1 : (laws_FnExactAddClue.j2 kj76 t247 (t261 != t222) t232 t248) = some r := by rw [if_pos rfl] at H; exact H
                             clear H; have H := H1; clear H1; have H' := Aside0.mk H; clear H; have hnb140 := NB262_208.out; have hnc140 := NB208_262.out; have hnb141 := NB262_209.out; have hnc141 := NB209_262.out; have hnb142 := NB262_223.out; have hnc142 := NB223_262.out; have hnb143 := NB262_228.out; have hnc143 := NB228_262.out; have hnb144 := NB262_237.out; have hnc144 := NB237_262.out
                             have hcz145_0 : w134.cell? ⟨gb262, 0, none⟩ = some (.int .i64 0) := (blk_cell BK262.out 0).trans rfl
                             have hcz145_1 : w134.cell? ⟨gb262, 1, none⟩ = some (.slice none 0 0) := (blk_cell BK262.out 1).trans rfl
                             have hfz145_0 := blk_frozen BK262.out 0
                             have hfz145_1 := blk_frozen BK262.out 1
                             have hnb146 := NB223_208.out; have hnc146 := NB208_223.out; have hnb147 := NB223_209.out; have hnc147 := NB209_223.out; have hnb148 := NB223_228.out; have hnc148 := NB228_223.out; have hnb149 := NB223_237.out; have hnc149 := NB237_223.out
                             have hcz150_0 : w134.cell? ⟨gb223, 0, none⟩ = some (.int .i64 t218) := (blk_cell BK223.out 0).trans rfl
                             have hcz150_1 : w134.cell? ⟨gb223, 1, none⟩ = some (.slice Ao30 t219.length co30) := (blk_cell BK223.out 1).trans rfl
                             have hfz150_0 := blk_frozen BK223.out 0
                             have hfz150_1 := blk_frozen BK223.out 1
                             go_wp2_with (first | ((with_reducible refine gate_callee (f := 19) rfl ?_); refine goesL_ (some 89) rfl rfl Try.func19 (by kernel_rfl) rfl #[.agg #[.int .i64 t257, .slice Ao136 t258.length co136], .agg #[.int .i64 t218, .slice Ao30 t219.length co30]] rfl zO3_15 ?_; (with_reducible refine (laws_eqPuzzle.calls kj76 t257 _ _ t258 t218 _ _ t219 true _ ?side1 ?side2 ?side3 ?side4 A138.out).mono ?_); (case side1 => refine (Kd.R_reads' (e := 37) (base := w.heap.size) (ok := fun k_ => (some k_ ≠ (v252 : Value).ownBlock ∧ (some k_ ≠ (.slice Ao30 t219.length co30 : Value).ownBlock ∧ (some k_ ≠ (.slice Ao40 t245.length co40 : Value).ownBlock ∧ some k_ ≠ (.slice Ao48 t233.length co48 : Value).ownBlock)))) (n := t258.length) (c := co136) ?_).2.2; exact (by (with_reducible repeat (first | apply Kd.R_alloc | apply Kd.R_drewN | apply Kd.R_drew)); exact (Kd.R_mono (Kd.R_far (p := ⟨gb262, 1, none⟩) (Kd.R_far (p := ⟨gb262, 0, none⟩) (Kd.R_types HO260.out BK262.out (by decide)) (fun _ hk => hk.2) (.int .i64 t257)) (fun _ hk => hk.2) (.slice Ao136 t258.length co136)) (fun _ h_ => h_.1)))); (case side2 => exact (Kd.R_reads' HO260.out).2.1); (case side3 => refine (Kd.R_reads' (e := 37) (base := w.heap.size) (ok := fun k_ => (some k_ ≠ (v252 : Value).ownBlock ∧ (some k_ ≠ (.slice Ao136 t258.length co136 : Value).ownBlock ∧ (some k_ ≠ (.slice Ao40 t245.length co40 : Value).ownBlock ∧ some k_ ≠ (.slice Ao48 t233.length co48 : Value).ownBlock)))) (n := t219.length) (c := co30) ?_).2.2; exact (by (with_reducible repeat (first | apply Kd.R_alloc | apply Kd.R_drewN | apply Kd.R_drew)); exact (Kd.R_mono (Kd.R_far (p := ⟨gb262, 1, none⟩) (Kd.R_far (p := ⟨gb262, 0, none⟩) (Kd.R_types HO_224001.out BK262.out (by decide)) (fun _ hk => hk.2) (.int .i64 t257)) (fun _ hk => hk.2) (.slice Ao136 t258.length co136)) (fun _ h_ => h_.1)))); (case side4 => exact (Kd.R_reads' HO_224001.out).2.1); rintro e w151 ⟨rfl, hb⟩; refine ⟨_, rfl, ?_⟩; have n0_ := Aside0.mk (Kd.R_below (by (with_reducible repeat (first | apply Kd.R_alloc | apply Kd.R_drewN | apply Kd.R_drew)); exact (Kd.R_mono (Kd.R_far (p := ⟨gb262, 1, none⟩) (Kd.R_far (p := ⟨gb262, 0, none⟩) (Kd.R_types HO_224001.out BK262.out (by decide)) (fun _ hk => hk.2) (.int .i64 t257)) (fun _ hk => hk.2) (.slice Ao136 t258.length co136)) (fun _ h_ => h_.1))) hb); have n1_ := Aside0.mk (Kd.R_below (by (with_reducible repeat (first | apply Kd.R_alloc | apply Kd.R_drewN | apply Kd.R_drew)); exact (Kd.R_mono (Kd.R_far (p := ⟨gb262, 1, none⟩) (Kd.R_far (p := ⟨gb262, 0, none⟩) (Kd.R_types HO_229001.out BK262.out (by decide)) (fun _ hk => hk.2) (.int .i64 t257)) (fun _ hk => hk.2) (.slice Ao136 t258.length co136)) (fun _ h_ => h_.1))) hb); have n2_ := Aside0.mk (Kd.R_below (by (with_reducible repeat (first | apply Kd.R_alloc | apply Kd.R_drewN | apply Kd.R_drew)); exact (Kd.R_mono (Kd.R_far (p := ⟨gb262, 1, none⟩) (Kd.R_far (p := ⟨gb262, 0, none⟩) (Kd.R_types HO_238001.out BK262.out (by decide)) (fun _ hk => hk.2) (.int .i64 t257)) (fun _ hk => hk.2) (.slice Ao136 t258.length co136)) (fun _ h_ => h_.1))) hb); have n3_ := Aside0.mk (Kd.R_below (by (with_reducible repeat (first | apply Kd.R_alloc | apply Kd.R_drewN | apply Kd.R_drew)); exact (Kd.R_mono (Kd.R_far (p := ⟨gb262, 1, none⟩) (Kd.R_far (p := ⟨gb262, 0, none⟩) (Kd.R_types HO253.out BK262.out (by decide)) (fun _ hk => hk.2) (.int .i64 t257)) (fun _ hk => hk.2) (.slice Ao136 t258.length co136)) (fun _ h_ => h_.1))) hb); have n4_ := Aside0.mk (Kd.R_below (by (with_reducible repeat (first | apply Kd.R_alloc | apply Kd.R_drewN | apply Kd.R_drew)); exact (Kd.R_mono (Kd.R_far (p := ⟨gb262, 1, none⟩) (Kd.R_far (p := ⟨gb262, 0, none⟩) (Kd.R_types HO260.out BK262.out (by decide)) (fun _ hk => hk.2) (.int .i64 t257)) (fun _ hk => hk.2) (.slice Ao136 t258.length co136)) (fun _ h_ => h_.1))) hb); have n5_ := Aside0.mk (blk_below (g := gb208) (o := .cells #[.int .i64 a0_0, .slice A0_1 l0_1.length c0_1] 24 (0, 0)) (by (with_reducible repeat (first | refine blk_drewN ?_ _ | refine blk_drew ?_ | refine blk_alloc ?_ _)); refine blk_far ?_ NB208_262.out _; (with_reducible repeat (first | refine blk_drewN ?_ _ | refine blk_drew ?_ | refine blk_alloc ?_ _)); refine blk_far ?_ NB208_262.out _; (with_reducible repeat (first | refine blk_drewN ?_ _ | refine blk_drew ?_ | refine blk_alloc ?_ _)); exact BK208.out) hb); have n6_ := Aside0.mk (blk_below (g := gb209) (o := .cells #[.int .i64 a1_0, .int .i64 a1_1, .int .i64 a1_2] 34 (0, 0)) (by (with_reducible repeat (first | refine blk_drewN ?_ _ | refine blk_drew ?_ | refine blk_alloc ?_ _)); refine blk_far ?_ NB209_262.out _; (with_reducible repeat (first | refine blk_drewN ?_ _ | refine blk_drew ?_ | refine blk_alloc ?_ _)); refine blk_far ?_ NB209_262.out _; (with_reducible repeat (first | refine blk_drewN ?_ _ | refine blk_drew ?_ | refine blk_alloc ?_ _)); exact BK209.out) hb); have n7_ := Aside0.mk (blk_below (g := gb223) (o := .cells #[.int .i64 t218, .slice Ao30 t219.length co30] 29 (0, 0)) (by (with_reducible repeat (first | refine blk_drewN ?_ _ | refine blk_drew ?_ | refine blk_alloc ?_ _)); refine blk_far ?_ NB223_262.out _; (with_reducible repeat (first | refine blk_drewN ?_ _ | refine blk_drew ?_ | refine blk_alloc ?_ _)); refine blk_far ?_ NB223_262.out _; (with_reducible repeat (first | refine blk_drewN ?_ _ | refine blk_drew ?_ | refine blk_alloc ?_ _)); exact BK223.out) hb); have n8_ := Aside0.mk (blk_below (g := gb228) (o := .cells #[.int .i64 t224, .slice Ao40 t245.length co40] 29 (0, 0)) (by (with_reducible repeat (first | refine blk_drewN ?_ _ | refine blk_drew ?_ | refine blk_alloc ?_ _)); refine blk_far ?_ NB228_262.out _; (with_reducible repeat (first | refine blk_drewN ?_ _ | refine blk_drew ?_ | refine blk_alloc ?_ _)); refine blk_far ?_ NB228_262.out _; (with_reducible repeat (first | refine blk_drewN ?_ _ | refine blk_drew ?_ | refine blk_alloc ?_ _)); exact BK228.out) hb); have n9_ := Aside0.mk (blk_below (g := gb237) (o := .cells #[.int .i64 t232, .slice Ao48 t233.length co48] 29 (0, 0)) (by (with_reducible repeat (first | refine blk_drewN ?_ _ | refine blk_drew ?_ | refine blk_alloc ?_ _)); refine blk_far ?_ NB237_262.out _; (with_reducible repeat (first | refine blk_drewN ?_ _ | refine blk_drew ?_ | refine blk_alloc ?_ _)); refine blk_far ?_ NB237_262.out _; (with_reducible repeat (first | refine blk_drewN ?_ _ | refine blk_drew ?_ | refine blk_alloc ?_ _)); exact BK237.out) hb); have n10_ := Aside0.mk (blk_below (g := gb262) (o := .cells #[.int .i64 t257, .slice Ao136 t258.length co136] 29 (0, 0)) (by (with_reducible repeat (first | refine blk_drewN ?_ _ | refine blk_drew ?_ | refine blk_alloc ?_ _)); refine blk_put (cs := #[.int .i64 t257, .slice none 0 0]) ?_ 1 _ rfl; (with_reducible repeat (first | refine blk_drewN ?_ _ | refine blk_drew ?_ | refine blk_alloc ?_ _)); refine blk_put (cs := #[.int .i64 0, .slice none 0 0]) ?_ 0 _ rfl; (with_reducible repeat (first | refine blk_drewN ?_ _ | refine blk_drew ?_ | refine blk_alloc ?_ _)); exact BK262.out) hb); have n11_ := Aside0.mk (below_step zO3_0 hb); clear HO_224001; clear HO_229001; clear HO_238001; clear HO253; clear HO260; clear BK208; clear BK209; clear BK223; clear BK228; clear BK237; clear BK262; clear HB; have HO_224001 := n0_; have HO_229001 := n1_; have HO_238001 := n2_; have HO253 := n3_; have HO260 := n4_; have BK208 := n5_; have BK209 := n6_; have BK223 := n7_; have BK228 := n8_; have BK237 := n9_; have BK262 := n10_; have HB := n11_; clear n0_ n1_ n2_ n3_ n4_ n5_ n6_ n7_ n8_ n9_ n10_ n11_; (try clear hb); (try clear hb2); (try clear hk); (try clear hi)))
                             go_meet
                             case rel => exact ⟨_, ((t261 != t222)), zO3_34, H', ⟨by have := HJ15.out; have := HJ76.out; first | omega | exact Nat.le_refl _⟩, ⟨by (try simp only [hl229001_76]); (with_reducible repeat (first | apply Kd.R_alloc | apply Kd.R_drewN | apply Kd.R_drew)); exact Kd.R_mono HO_224001.out (fun _ hk => ⟨hk.2.2.1, ⟨hk.2.2.2, hk.2.1⟩⟩)⟩, ⟨by (try simp only [hl229001_76]); (with_reducible repeat (first | apply Kd.R_alloc | apply Kd.R_drewN | apply Kd.R_drew)); exact Kd.R_mono HO_229001.out (fun _ hk => ⟨hk.2.2.1, ⟨hk.2.2.2, hk.2.1⟩⟩)⟩, ⟨by (try simp only [hl229001_76]); (with_reducible repeat (first | apply Kd.R_alloc | apply Kd.R_drewN | apply Kd.R_drew)); exact Kd.R_mono HO_238001.out (fun _ hk => ⟨hk.2.2.1, ⟨hk.2.2.2, hk.2.1⟩⟩)⟩, ⟨by (try simp only [hl229001_76]); (with_reducible repeat (first | apply Kd.R_alloc | apply Kd.R_drewN | apply Kd.R_drew)); exact Kd.R_mono HO260.out (fun _ hk => ⟨hk.2.1, ⟨hk.2.2.1, hk.2.2.2⟩⟩)⟩, ⟨by (try simp only [hl229001_76]); (with_reducible repeat (first | refine blk_drewN ?_ _ | refine blk_drew ?_ | refine blk_alloc ?_ _)); exact BK208.out⟩, ⟨by (try simp only [hl229001_76]); (with_reducible repeat (first | refine blk_drewN ?_ _ | refine blk_drew ?_ | refine blk_alloc ?_ _)); exact BK209.out⟩, ⟨by (try simp only [hl229001_76]); (with_reducible repeat (first | refine blk_drewN ?_ _ | refine blk_drew ?_ | refine blk_alloc ?_ _)); exact BK223.out⟩, ⟨by (try simp only [hl229001_76]); (with_reducible repeat (first | refine blk_drewN ?_ _ | refine blk_drew ?_ | refine blk_alloc ?_ _)); exact BK228.out⟩, ⟨by (try simp only [hl229001_76]); (with_reducible repeat (first | refine blk_drewN ?_ _ | refine blk_drew ?_ | refine blk_alloc ?_ _)); exact BK237.out⟩, ⟨by (try simp only [hl229001_76]); (with_reducible repeat (first | refine blk_drewN ?_ _ | refine blk_drew ?_ | refine blk_alloc ?_ _)); exact BK262.out⟩, ⟨by repeat (first | (with_reducible first | exact HB.out | apply below_alloc | apply pw_below_drewN | apply below_drew1 | refine below_set ?_ GE208.out | refine below_set ?_ GE209.out | refine below_set ?_ GE223.out | refine below_set ?_ GE228.out | refine below_set ?_ GE237.out | refine below_set ?_ GE262.out) | exact HB.out)⟩⟩
                           · replace c139 := Bool.eq_false_iff.mpr c139
                             subst c139
                             have H1 : (laws_FnExactAddClue.j2 kj76 t247 true t232 t248) = some r := by rw [if_neg (show ¬ (false = true) by decide)] at H; exact H
                             clear H; have H := H1; clear H1
                             exact absurd (HR_.out.symm.trans (laws_FnExactAddClue.j2_true _ _ _ _ _ H)) (by decide)
                        case rest =>
                         as_aux_lemma =>
                           clear HC119; (try clear c1); (try clear c2); (try clear p2); (try clear c13); (try clear c14); (try clear c15); (try clear c16); (try clear c17); (try clear c19); (try clear c21); (try clear c22); (try clear c139); (try clear c140); (try clear c141); (try clear c142); (try clear c143); (try clear c144); (try clear c146); (try clear c147); (try clear c148); (try clear c149); (try clear c152); (try clear c153); (try clear c154); (try clear c155); (try clear c156); (try clear c158); (try clear c159); (try clear c160); (try clear c161); (try clear hcz145_0); (try clear hcz145_1); (try clear hcz150_0); (try clear hcz150_1); (try clear hcz157_0); (try clear hcz157_1); (try clear hcz162_0); (try clear hcz162_1); (try clear hfz145_0); (try clear hfz145_1); (try clear hfz150_0); (try clear hfz150_1); (try clear hfz157_0); (try clear hfz157_1); (try clear hfz162_0); (try clear hfz162_1)
                           obtain ⟨kq, x95_118, rfl, HA, HJ118, HO_224001, HO_229001, HO_238001, HO_263001, BK208, BK209, BK223, BK228, BK237, BK262, HB⟩ := hcut
                           have hl238001_118 := (Kd.R_reads' HO_238001.out).1
                           rw [hl238001_118] at HO_238001
                           (try simp only [hl238001_118])
                           (try simp only [hl238001_118] at BK208)
                           (try simp only [hl238001_118] at BK209)
                           (try simp only [hl238001_118] at BK223)
                           (try simp only [hl238001_118] at BK228)
                           (try simp only [hl238001_118] at BK237)
                           (try simp only [hl238001_118] at BK262)
                           (try simp only [hl238001_118] at HO_224001)
                           (try simp only [hl238001_118] at HO_229001)
                           (try simp only [hl238001_118] at HO_263001)
                           cases kq with
                           | zero => exact absurd HA.out (by simp [laws_FnExactAddClue.j2])
                           | succ kj118 =>
                             have H := HA.out; clear HA
                             simp only [laws_FnExactAddClue.j2] at H
                             by_cases c164 : x95_118 = true
                             · subst c164
                               have H1 : (some false) = some r := by rw [if_pos rfl] at H; exact H
                               clear H; have H := H1; clear H1
                               obtain rfl := Option.some.inj H
                               exact absurd HR_.out (by decide)
                             · replace c164 := Bool.eq_false_iff.mpr c164
                               subst c164
                               have H1 : ((laws_heldPuzzle.f kj118 t232 t248 1).bind fun t264 => (if t264 < 0 then (some false) else (if t264 = t247 then (some true) else (some false)))) = some r := by rw [if_neg (show ¬ (false = true) by decide)] at H; exact H
                               clear H; have H := H1; clear H1; replace H := Option.bind_eq_some_iff.mp H
                               obtain ⟨t264, A1650, H⟩ := H
                               replace H : (if t264 < 0 then (some false) else (if t264 = t247 then (some true) else (some false))) = some r := H
                               have A165 := Aside0.mk A1650
                               clear A1650
                               by_cases c166 : t264 < 0
                               · rw [if_pos c166] at H
                                 have c166b0 : decide (t264 < 0) = true := decide_eq_true c166; clear c166
                                 obtain rfl := Option.some.inj H
                                 exact absurd HR_.out (by decide)
                               · rw [if_neg c166] at H
                                 have c166b0 : decide (t264 < 0) = false := decide_eq_false c166; clear c166
                                 by_cases c167 : t264 = t247
                                 · rw [if_pos c167] at H
                                   have c167b0 : (t264 == t247) = true := beq_iff_eq.mpr c167
                                   have c167b1 : (t264 != t247) = false := bne_eq_false_iff_eq.mpr c167
                                   clear c167
                                   obtain rfl := Option.some.inj H
                                   have hnb168 := NB237_208.out; have hnc168 := NB208_237.out; have hnb169 := NB237_209.out; have hnc169 := NB209_237.out; have hnb170 := NB237_223.out; have hnc170 := NB223_237.out; have hnb171 := NB237_228.out; have hnc171 := NB228_237.out; have hnb172 := NB237_262.out; have hnc172 := NB262_237.out
                                   have hcz173_0 : wc.cell? ⟨gb237, 0, none⟩ = some (.int .i64 t232) := (blk_cell BK237.out 0).trans rfl
                                   have hcz173_1 : wc.cell? ⟨gb237, 1, none⟩ = some (.slice Ao48 t248.length co48) := (blk_cell BK237.out 1).trans rfl
                                   have hfz173_0 := blk_frozen BK237.out 0
                                   have hfz173_1 := blk_frozen BK237.out 1
                                   go_wp2_with (first | ((with_reducible refine gate_callee (f := 24) rfl ?_); refine goesL_ (some 98) rfl rfl Try.func24 (by kernel_rfl) rfl #[.agg #[.int .i64 t232, .slice Ao48 t248.length co48], .int .i64 1] rfl zO3_15 ?_; (with_reducible refine (laws_heldPuzzle.calls kj118 t232 _ _ t248 1 t264 _ ?side1 ?side2 A165.out).mono ?_); (case side1 => repeat (first | exact (Kd.R_reads' HO_238001.out).2.2 | (with_reducible refine Kd.C_alloc ?_ _) | (with_reducible refine Kd.C_drewN ?_ _) | (with_reducible refine Kd.C_drew ?_))); (case side2 => exact (Kd.R_reads' HO_238001.out).2.1); rintro e w174 ⟨rfl, hb⟩; refine ⟨_, rfl, ?_⟩; have n0_ := Aside0.mk (Kd.R_below zO3_25 hb); have n1_ := Aside0.mk (Kd.R_below zO3_26 hb); have n2_ := Aside0.mk (Kd.R_below zO3_27 hb); have n3_ := Aside0.mk (Kd.R_below (by (with_reducible repeat (first | apply Kd.R_alloc | apply Kd.R_drewN | apply Kd.R_drew)); exact HO_263001.out) hb); have n4_ := Aside0.mk (blk_below (g := gb208) (o := .cells #[.int .i64 a0_0, .slice A0_1 l0_1.length c0_1] 24 (0, 0)) zO3_19 hb); have n5_ := Aside0.mk (blk_below (g := gb209) (o := .cells #[.int .i64 a1_0, .int .i64 a1_1, .int .i64 a1_2] 34 (0, 0)) zO3_20 hb); have n6_ := Aside0.mk (blk_below (g := gb223) (o := .cells #[.int .i64 t218, .slice Ao30 t219.length co30] 29 (0, 0)) zO3_21 hb); have n7_ := Aside0.mk (blk_below (g := gb228) (o := .cells #[.int .i64 t224, .slice Ao40 t245.length co40] 29 (0, 0)) zO3_22 hb); have n8_ := Aside0.mk (blk_below (g := gb237) (o := .cells #[.int .i64 t232, .slice Ao48 t248.length co48] 29 (0, 0)) zO3_23 hb); have n9_ := Aside0.mk (blk_below (g := gb262) (o := .cells #[.int .i64 t257, .slice Ao136 t258.length co136] 29 (0, 0)) zO3_24 hb); have n10_ := Aside0.mk (below_step zO3_0 hb); clear HO_224001; clear HO_229001; clear HO_238001; clear HO_263001; clear BK208; clear BK209; clear BK223; clear BK228; clear BK237; clear BK262; clear HB; have HO_224001 := n0_; have HO_229001 := n1_; have HO_238001 := n2_; have HO_263001 := n3_; have BK208 := n4_; have BK209 := n5_; have BK223 := n6_; have BK228 := n7_; have BK237 := n8_; have BK262 := n9_; have HB := n10_; clear n0_ n1_ n2_ n3_ n4_ n5_ n6_ n7_ n8_ n9_ n10_; (try clear hb); (try clear hb2); (try clear hk); (try clear hi)))
                                   go_ret
                                   exact ⟨by first | rfl | (simp [errW_none, errW_some] <;> rfl) | (simp [*, errW_none, errW_some] <;> rfl), by repeat (first | (with_reducible first | exact HB.out | apply below_alloc | apply pw_below_drewN | apply below_drew1 | refine below_set ?_ GE208.out | refine below_set ?_ GE209.out | refine below_set ?_ GE223.out | refine below_set ?_ GE228.out | refine below_set ?_ GE237.out | refine below_set ?_ GE262.out) | exact HB.out)⟩
                                 · rw [if_neg c167] at H
                                   have c167b0 : (t264 == t247) = false := beq_eq_false_iff_ne.mpr c167
                                   have c167b1 : (t264 != t247) = true := bne_iff_ne.mpr c167
                                   obtain rfl := Option.some.inj H
                                   exact absurd HR_.out (by decide)
                      · rw [if_neg c115] at H
                        have c115b0 : (t249 == t247) = false := beq_eq_false_iff_ne.mpr c115
                        have c115b1 : (t249 != t247) = true := bne_iff_ne.mpr c115
                        obtain rfl := Option.some.inj H
                        exact absurd HR_.out (by decide)
           · replace c75 := Bool.eq_false_iff.mpr c75
             subst c75
             have H1 : (some false) = some r := by rw [if_neg (show ¬ (false = true) by decide)] at H; exact H
             clear H; have H := H1; clear H1
             obtain rfl := Option.some.inj H
             exact absurd HR_.out (by decide)

end Go.Proofs.Ytbdjidjcmmeanaa.P
