/- The law FnExactParsePuzzle is proved: a call of it returns true and leaves its arguments as they were; and what this needs. Every input that the given rows speak of; nothing else is asked. -/
import Derived.Test.YthioojdannlhiaaDoorNFnExactParsePuzzle0
import Derived.Test.YthioojdannlhiaaDoorNFnExactParsePuzzle1
import Derived.Test.YthioojdannlhiaaDoorNFnExactParsePuzzle2
import Derived.Test.YthioojdannlhiaaDoorRows
import Derived.Test.YthioojdannlhiaaDoorCards
import Derived.Test.YthioojdannlhiaaDoorTie
import Derived.WalkKit
import Derived.ProofKit
import Derived.OpenShut
import Derived.ShutString
import Derived.ChangeOld
import Derived.Below
import Derived.SizedLaws
import Derived.Deep.Slices
import Derived.Deep.Fields
import Derived.ChangeSame
import Derived.Lib.SmallJoins
import Derived.Handed
import Derived.LaidLaws
import Derived.LaidMore
import Derived.Stop.LaidErr
import Derived.Lib.LaidTab
import Derived.SevenTiedAt
import Derived.ShapedOpen
import Derived.Lay
import Derived.Test.YthioojdannlhiaaDoorWSized
namespace Go.Proofs.YthioojdannlhiaaDoor.P
open Go.RowKit Go.Proofs.YthioojdannlhiaaDoorW.PrintWords Go.Proofs.YthioojdannlhiaaDoorW.PrintLast Go.Proofs.YthioojdannlhiaaDoorW.PrintMore
attribute [local go_sem] max2_int min2_int max_two min_two max_three min_three max_four min_four   -- for this text's walks alone
set_option linter.unusedVariables false
set_option linter.unusedSimpArgs false

/-! ### impl_PuzzleText: function 8 -/
def impl_PuzzleText.l0 : Nat → List ByteArray → List (S44) → Int → Int → Int → List (S44) → Option (ByteArray × Bool)
 | 0, _, _, _, _, _, _ => none
 | k + 1, x4, x12, x13, x14, x179000, x179001 => if x14 < x13 then (if 0 ≤ x14 then (if x14 < (x12.length : Int) then ((impl_text.f ((rd_T44 x12 x14).f0)).bind fun t185 => (if t185.size + 1 ≤ 9223372036854775807 then ((impl_text.f ((rd_T44 x12 x14).f1)).bind fun t186 => (if (t185 ++ (⟨#[46]⟩ : ByteArray)).size + t186.size ≤ 9223372036854775807 then (if ((t185 ++ (⟨#[46]⟩ : ByteArray)) ++ t186).size + 1 ≤ 9223372036854775807 then ((impl_text.f ((rd_T44 x12 x14).f2)).bind fun t187 => (if (((t185 ++ (⟨#[46]⟩ : ByteArray)) ++ t186) ++ (⟨#[46]⟩ : ByteArray)).size + t187.size ≤ 9223372036854775807 then (if x4.length < 8796093022208 then (impl_PuzzleText.l0 k (x4 ++ [(((t185 ++ (⟨#[46]⟩ : ByteArray)) ++ t186) ++ (⟨#[46]⟩ : ByteArray)) ++ t187]) x12 x13 (wrap64 (x14 + 1)) x179000 x179001) else (none)) else (none))) else (none)) else (none))) else (none))) else (none)) else (none)) else ((impl_text.f x179000).bind fun t191 => (if t191.size + 1 ≤ 9223372036854775807 then ((strings_Join.f x4 (⟨#[44]⟩ : ByteArray)).bind fun t192 => (if (t191 ++ (⟨#[119]⟩ : ByteArray)).size + t192.size ≤ 9223372036854775807 then (some ((t191 ++ (⟨#[119]⟩ : ByteArray)) ++ t192, true)) else (none))) else (none)))
def impl_PuzzleText.f (k : Nat) (a0_0 : Int) (l0_1 : List (S44)) : Option (ByteArray × Bool) := (impl_IsPuzzle.f k a0_0 l0_1).bind fun t179 => (if t179 = true then (impl_PuzzleText.l0 k (([] : List ByteArray)) l0_1 (l0_1.length : Int) 0 a0_0 l0_1) else (some ((⟨#[]⟩ : ByteArray), false)))
def impl_PuzzleText.T7 : Bool × List (List Nat × List Nat) := (true, [([], []), ([], []), ([1], [1]), ([2], [2]), ([3], [3]), ([], []), ([5], [5]), ([6, 3], [6]), ([4, 7], [4, 7]), ([8], [8]), ([], []), ([10], [10]), ([11, 7], [11]), ([9, 12], [9, 12]), ([13], [13]), ([0, 14, 12], [0, 14]), ([15, 15, 0, 1, 2, 3, 4, 5, 6, 7, 8, 9, 10, 11, 12, 13, 14, 15], [0, 15])])
def impl_PuzzleText.B7 : List Nat := [0, 0, 2, 6, 14, 0, 32, 110, 254, 510, 0, 1024, 3310, 8190, 16382, 32767, 65535]
theorem impl_PuzzleText.tab7 : rtab .any (opsOf Tryd.f8 7) = impl_PuzzleText.T7 := by kernel_rfl
theorem impl_PuzzleText.bits7 : waitsOk impl_PuzzleText.T7.2 impl_PuzzleText.B7 = true := by kernel_rfl
set_option maxHeartbeats 8000000 in
set_option maxRecDepth 100000 in
theorem impl_PuzzleText.calls (k : Nat) (a0_0 : Int) (A0_1 : Option Addr) (c0_1 : Nat) (l0_1 : List (S44)) (r1 : ByteArray) (r2 : Bool) (w : World) (hL_ : LaidP w) (hr0_1 : Kd.C k44 w A0_1 l0_1.length l0_1) (hc0_1 : l0_1.length ≤ c0_1) (h : impl_PuzzleText.f k a0_0 l0_1 = some (r1, r2)) :
  Calls Tryd.prog 8 #[.agg #[.int .i64 a0_0, .slice A0_1 l0_1.length c0_1]] w fun e w' => e = .returned (.tuple #[.string r1, .bool r2]) ∧ Below w.heap.size w w' := by
 have HL_ := Aside0.mk hL_
 clear hL_; have hu30 := Tryd.underlying30; have hu44 := Tryd.underlying44
 have HR0_1 := Aside0.mk hr0_1
 have HC0_1 := Aside0.mk hc0_1
 clear hr0_1 hc0_1
 have HB := Aside0.mk (Below.refl w.heap.size w)
 have H : ((impl_IsPuzzle.f k a0_0 l0_1).bind fun t179 => (if t179 = true then (impl_PuzzleText.l0 k (([] : List ByteArray)) l0_1 (l0_1.length : Int) 0 a0_0 l0_1) else (some ((⟨#[]⟩ : ByteArray), false)))) = some (r1, r2) := h
 clear h; replace H := Option.bind_eq_some_iff.mp H
 obtain ⟨t179, A20, H⟩ := H
 replace H : (if t179 = true then (impl_PuzzleText.l0 k (([] : List ByteArray)) l0_1 (l0_1.length : Int) 0 a0_0 l0_1) else (some ((⟨#[]⟩ : ByteArray), false))) = some (r1, r2) := H
 have A2 := Aside0.mk A20
 clear A20
 by_cases c3 : t179 = true
 ·subst c3
  have H1 : (impl_PuzzleText.l0 k (([] : List ByteArray)) l0_1 (l0_1.length : Int) 0 a0_0 l0_1) = some (r1, r2) := by rw [if_pos rfl] at H; exact H
  clear H; have H := H1; clear H1
  obtain ⟨y180, hy180⟩ : ∃ y_ : List ByteArray, y_ = (([] : List ByteArray)) := ⟨_, rfl⟩
  replace H : (impl_PuzzleText.l0 k y180 l0_1 (l0_1.length : Int) 0 a0_0 l0_1) = some (r1, r2) := by first | (rw [hy180]; with_reducible exact H) | (have H2_ := (Option.bind_some _ _).symm.trans H; rw [hy180]; with_reducible exact H2_) | (have H2_ := (Option.bind_some _ _).symm.trans H; with_reducible exact H2_) | with_reducible exact H | (rw [hy180]; exact H) | exact H
  have Ny180 := Aside0.mk hy180
  clear hy180; have H' := Aside0.mk H; clear H
  go_enter Tryd.func8, Tryd.ntmps8
  go_wp2_with (first | ((with_reducible refine gate_dst (N := 1) rfl ?_); refine box_event ?hg (N := 1) ?hd (cs := #[.int .i64 a0_0, .slice A0_1 l0_1.length c0_1]) (t := 30) ?hr ?_; (case hd => rfl); (case hg => rfl); (case hr => first | (go_simp; done) | (go_simp; rfl)); intro gb178 hg w4 hbox hb; have n0_ := Aside0.mk (below_step (by repeat (first | (with_reducible first | exact HB.out | apply below_alloc | apply pw_below_drewN | apply below_drew1) | exact HB.out)) hb); have n1_ := Aside0.mk (hbox); have n2_ := Aside0.mk ((by rw [hg]; exact (below_size (by repeat (first | (with_reducible first | exact HB.out | apply below_alloc | apply pw_below_drewN | apply below_drew1) | exact HB.out))) : w.heap.size ≤ gb178)); have n3_ := Aside0.mk ((by rw [hg]; exact (below_size (by repeat (first | (with_reducible first | exact HB.out | apply below_alloc | apply pw_below_drewN | apply below_drew1) | exact HB.out))) : w.heap.size ≤ gb178)); clear HB; have HB := n0_; have BK178 := n1_; have GW178 := n2_; have GE178 := n3_; clear n0_ n1_ n2_ n3_; clear hb hbox hg; have hcz5_0 : w4.cell? ⟨gb178, 0, none⟩ = some (.int .i64 a0_0) := (blk_cell BK178.out 0).trans rfl; have hcz5_1 : w4.cell? ⟨gb178, 1, none⟩ = some (.slice A0_1 l0_1.length c0_1) := (blk_cell BK178.out 1).trans rfl; have hfz5_0 := blk_frozen BK178.out 0; have hfz5_1 := blk_frozen BK178.out 1) | ((with_reducible refine gate_callee (f := 18) rfl ?_); refine goesL_ (some 8) rfl rfl Tryd.func18 (by kernel_rfl) rfl #[.agg #[.int .i64 a0_0, .slice A0_1 l0_1.length c0_1]] rfl (by (try simp only [List.map_toArray, List.map_cons, List.map_nil]); first | done | rfl | (simp only [List.length_drop, List.length_take]; rfl)) ?_; (with_reducible refine (impl_IsPuzzle.calls k a0_0 _ _ l0_1 true _ ?side1 ?side2 A2.out).mono ?_); (case side1 => repeat (first | exact (Kd.C_below HR0_1.out HB.out) | (with_reducible refine Kd.C_alloc ?_ _) | (with_reducible refine Kd.C_drewN ?_ _) | (with_reducible refine Kd.C_drew ?_))); (case side2 => exact HC0_1.out); rintro e w6 ⟨rfl, hb⟩; refine ⟨_, rfl, ?_⟩; have n0_ := Aside0.mk (blk_below (g := gb178) (o := .cells #[.int .i64 a0_0, .slice A0_1 l0_1.length c0_1] 30 (0, 0)) (by (with_reducible repeat (first | refine blk_drewN ?_ _ | refine blk_drew ?_ | refine blk_alloc ?_ _)); exact BK178.out) hb); have n1_ := Aside0.mk (below_step (by repeat (first | (with_reducible first | exact HB.out | apply below_alloc | apply pw_below_drewN | apply below_drew1 | refine below_set ?_ GE178.out) | exact HB.out)) hb); clear BK178; clear HB; have BK178 := n0_; have HB := n1_; clear n0_ n1_; (try clear hb); (try clear hb2); (try clear hk); (try clear hi)) | ((with_reducible refine gate_dst (N := 10) rfl ?_); refine Kd.R_lit Kd.string _ 9 ?hg (N := 10) ?hd (xs := ([] : List ByteArray)) (inner := []) (ok := fun _ => True) (okp := fun _ => True) ?hr ?hp (fun _ hk => hk) trivial (Below.refl _ _) (Nat.le_refl _) (by simp) ?_; (case hd => rfl); (case hg => rfl); (case hr => first | (go_simp; done) | (go_simp; rfl)); (case hp => exact (Reps.none _ _)); intro v181 w7 ho8 hb hg_ hnew_; clear hg_ hnew_; (first | rw [← Ny180.out] at ho8 | (simp only [Int.reduceToNat] at ho8; rw [← Ny180.out] at ho8)); have n0_ := Aside0.mk (Kd.R_lower ho8 (below_size (by repeat (first | (with_reducible first | exact HB.out | apply below_alloc | apply pw_below_drewN | apply below_drew1 | refine below_set ?_ GE178.out) | exact HB.out)))); have n1_ := Aside0.mk (blk_below (g := gb178) (o := .cells #[.int .i64 a0_0, .slice A0_1 l0_1.length c0_1] 30 (0, 0)) (by (with_reducible repeat (first | refine blk_drewN ?_ _ | refine blk_drew ?_ | refine blk_alloc ?_ _)); exact BK178.out) hb); have n2_ := Aside0.mk (below_step (by repeat (first | (with_reducible first | exact HB.out | apply below_alloc | apply pw_below_drewN | apply below_drew1 | refine below_set ?_ GE178.out) | exact HB.out)) hb); clear BK178; clear HB; have HO182 := n0_; have BK178 := n1_; have HB := n2_; clear n0_ n1_ n2_; clear hb ho8; have hcz9_0 : w7.cell? ⟨gb178, 0, none⟩ = some (.int .i64 a0_0) := (blk_cell BK178.out 0).trans rfl; have hcz9_1 : w7.cell? ⟨gb178, 1, none⟩ = some (.slice A0_1 l0_1.length c0_1) := (blk_cell BK178.out 1).trans rfl; have hfz9_0 := blk_frozen BK178.out 0; have hfz9_1 := blk_frozen BK178.out 1))
  go_loopg [4, 14] k (fun kq v4 v14 w' => ∃ (x4_1 : List ByteArray) (x14_1 : Int), v14 = .int .i64 x14_1 ∧ Aside0 (impl_PuzzleText.l0 kq x4_1 l0_1 (l0_1.length : Int) x14_1 a0_0 l0_1 = some (r1, r2)) ∧ Aside0 (kq ≤ k) ∧ Aside0 (Kd.R Kd.string 9 w' w.heap.size (fun _ => True) v4 x4_1) ∧ Aside0 (w'.heap[gb178]? = some (.cells #[.int .i64 a0_0, (.slice A0_1 l0_1.length c0_1)] 30 (0, 0))) ∧ Aside0 (Below w.heap.size w w'))
  case atStart => exact ⟨(y180), (0), (by first | rfl | (simp; done) | (simp [*]; done)), H', ⟨Nat.le_refl _⟩, ⟨by (with_reducible repeat (first | apply Kd.R_alloc | apply Kd.R_drewN | apply Kd.R_drew)); exact HO182.out⟩, ⟨by (with_reducible repeat (first | refine blk_drewN ?_ _ | refine blk_drew ?_ | refine blk_alloc ?_ _)); exact BK178.out⟩, ⟨by repeat (first | (with_reducible first | exact HB.out | apply below_alloc | apply pw_below_drewN | apply below_drew1 | refine below_set ?_ GE178.out) | exact HB.out)⟩⟩
  case round =>
   clear H'; (try clear c1); (try clear p2); (try clear c3); (try clear c8); (try clear hcz5_0); (try clear hcz5_1); (try clear hcz9_0); (try clear hcz9_1); (try clear hfz5_0); (try clear hfz5_1); (try clear hfz9_0); (try clear hfz9_1)
   obtain ⟨x4_1, x14_1, rfl, HA, HK1, HO_4, BK178, HB⟩ := hrel
   cases gk with
   | zero => exact absurd HA.out (by simp [impl_PuzzleText.l0])
   | succ k1 =>
    have H := HA.out; clear HA
    simp only [impl_PuzzleText.l0] at H
    by_cases c10 : x14_1 < (l0_1.length : Int)
    ·rw [if_pos c10] at H
     have c10b0 : decide (x14_1 < (l0_1.length : Int)) = true := decide_eq_true c10; clear c10
     by_cases c11 : 0 ≤ x14_1
     ·rw [if_pos c11] at H
      have c11b0 : decide (0 ≤ x14_1) = true := decide_eq_true c11; clear c11
      by_cases c12 : x14_1 < (l0_1.length : Int)
      ·rw [if_pos c12] at H
       have c12b0 : decide (x14_1 < (l0_1.length : Int)) = true := decide_eq_true c12; clear c12; replace H := Option.bind_eq_some_iff.mp H
       obtain ⟨t185, A130, H⟩ := H
       replace H : (if t185.size + 1 ≤ 9223372036854775807 then ((impl_text.f ((rd_T44 l0_1 x14_1).f1)).bind fun t186 => (if (t185 ++ (⟨#[46]⟩ : ByteArray)).size + t186.size ≤ 9223372036854775807 then (if ((t185 ++ (⟨#[46]⟩ : ByteArray)) ++ t186).size + 1 ≤ 9223372036854775807 then ((impl_text.f ((rd_T44 l0_1 x14_1).f2)).bind fun t187 => (if (((t185 ++ (⟨#[46]⟩ : ByteArray)) ++ t186) ++ (⟨#[46]⟩ : ByteArray)).size + t187.size ≤ 9223372036854775807 then (if x4_1.length < 8796093022208 then (impl_PuzzleText.l0 k1 (x4_1 ++ [(((t185 ++ (⟨#[46]⟩ : ByteArray)) ++ t186) ++ (⟨#[46]⟩ : ByteArray)) ++ t187]) l0_1 (l0_1.length : Int) (wrap64 (x14_1 + 1)) a0_0 l0_1) else (none)) else (none))) else (none)) else (none))) else (none)) = some (r1, r2) := H
       have A13 := Aside0.mk A130
       clear A130
       by_cases c14 : t185.size + 1 ≤ 9223372036854775807
       ·rw [if_pos c14] at H
        have c14b0 := eq_true c14
        have c14b1 : decide (t185.size + 1 ≤ 9223372036854775807) = true := decide_eq_true c14
        try have c14b2 : (9223372036854775807 < t185.size + 1) = False := eq_false (Nat.not_lt.2 c14)
        replace H := Option.bind_eq_some_iff.mp H
        obtain ⟨t186, A150, H⟩ := H
        replace H : (if (t185 ++ (⟨#[46]⟩ : ByteArray)).size + t186.size ≤ 9223372036854775807 then (if ((t185 ++ (⟨#[46]⟩ : ByteArray)) ++ t186).size + 1 ≤ 9223372036854775807 then ((impl_text.f ((rd_T44 l0_1 x14_1).f2)).bind fun t187 => (if (((t185 ++ (⟨#[46]⟩ : ByteArray)) ++ t186) ++ (⟨#[46]⟩ : ByteArray)).size + t187.size ≤ 9223372036854775807 then (if x4_1.length < 8796093022208 then (impl_PuzzleText.l0 k1 (x4_1 ++ [(((t185 ++ (⟨#[46]⟩ : ByteArray)) ++ t186) ++ (⟨#[46]⟩ : ByteArray)) ++ t187]) l0_1 (l0_1.length : Int) (wrap64 (x14_1 + 1)) a0_0 l0_1) else (none)) else (none))) else (none)) else (none)) = some (r1, r2) := H
        have A15 := Aside0.mk A150
        clear A150
        by_cases c16 : (t185 ++ (⟨#[46]⟩ : ByteArray)).size + t186.size ≤ 9223372036854775807
        ·rw [if_pos c16] at H
         have c16b0 := eq_true c16
         have c16b1 : decide ((t185 ++ (⟨#[46]⟩ : ByteArray)).size + t186.size ≤ 9223372036854775807) = true := decide_eq_true c16
         try have c16b2 : (9223372036854775807 < (t185 ++ (⟨#[46]⟩ : ByteArray)).size + t186.size) = False := eq_false (Nat.not_lt.2 c16)
         try (have c16b2s := Nat.not_lt.2 c16; simp only [ByteArray.size_append, show (⟨#[119]⟩ : ByteArray).size = 1 from rfl, show (⟨#[44]⟩ : ByteArray).size = 1 from rfl, show (⟨#[46]⟩ : ByteArray).size = 1 from rfl, show (⟨#[]⟩ : ByteArray).size = 0 from rfl] at c16b2s; replace c16b2s := eq_false c16b2s)
         by_cases c17 : ((t185 ++ (⟨#[46]⟩ : ByteArray)) ++ t186).size + 1 ≤ 9223372036854775807
         ·rw [if_pos c17] at H
          have c17b0 := eq_true c17
          have c17b1 : decide (((t185 ++ (⟨#[46]⟩ : ByteArray)) ++ t186).size + 1 ≤ 9223372036854775807) = true := decide_eq_true c17
          try have c17b2 : (9223372036854775807 < ((t185 ++ (⟨#[46]⟩ : ByteArray)) ++ t186).size + 1) = False := eq_false (Nat.not_lt.2 c17)
          try (have c17b2s := Nat.not_lt.2 c17; simp only [ByteArray.size_append, show (⟨#[119]⟩ : ByteArray).size = 1 from rfl, show (⟨#[44]⟩ : ByteArray).size = 1 from rfl, show (⟨#[46]⟩ : ByteArray).size = 1 from rfl, show (⟨#[]⟩ : ByteArray).size = 0 from rfl] at c17b2s; replace c17b2s := eq_false c17b2s)
          replace H := Option.bind_eq_some_iff.mp H
          obtain ⟨t187, A180, H⟩ := H
          replace H : (if (((t185 ++ (⟨#[46]⟩ : ByteArray)) ++ t186) ++ (⟨#[46]⟩ : ByteArray)).size + t187.size ≤ 9223372036854775807 then (if x4_1.length < 8796093022208 then (impl_PuzzleText.l0 k1 (x4_1 ++ [(((t185 ++ (⟨#[46]⟩ : ByteArray)) ++ t186) ++ (⟨#[46]⟩ : ByteArray)) ++ t187]) l0_1 (l0_1.length : Int) (wrap64 (x14_1 + 1)) a0_0 l0_1) else (none)) else (none)) = some (r1, r2) := H
          have A18 := Aside0.mk A180
          clear A180
          by_cases c19 : (((t185 ++ (⟨#[46]⟩ : ByteArray)) ++ t186) ++ (⟨#[46]⟩ : ByteArray)).size + t187.size ≤ 9223372036854775807
          ·rw [if_pos c19] at H
           have c19b0 := eq_true c19
           have c19b1 : decide ((((t185 ++ (⟨#[46]⟩ : ByteArray)) ++ t186) ++ (⟨#[46]⟩ : ByteArray)).size + t187.size ≤ 9223372036854775807) = true := decide_eq_true c19
           try have c19b2 : (9223372036854775807 < (((t185 ++ (⟨#[46]⟩ : ByteArray)) ++ t186) ++ (⟨#[46]⟩ : ByteArray)).size + t187.size) = False := eq_false (Nat.not_lt.2 c19)
           try (have c19b2s := Nat.not_lt.2 c19; simp only [ByteArray.size_append, show (⟨#[119]⟩ : ByteArray).size = 1 from rfl, show (⟨#[44]⟩ : ByteArray).size = 1 from rfl, show (⟨#[46]⟩ : ByteArray).size = 1 from rfl, show (⟨#[]⟩ : ByteArray).size = 0 from rfl] at c19b2s; replace c19b2s := eq_false c19b2s)
           by_cases c20 : x4_1.length < 8796093022208
           ·rw [if_pos c20] at H
            have LMc20 := Aside0.mk c20
            clear c20
            obtain ⟨y188, hy188⟩ : ∃ y_ : List ByteArray, y_ = (x4_1 ++ [(((t185 ++ (⟨#[46]⟩ : ByteArray)) ++ t186) ++ (⟨#[46]⟩ : ByteArray)) ++ t187]) := ⟨_, rfl⟩
            replace H : (impl_PuzzleText.l0 k1 y188 l0_1 (l0_1.length : Int) (wrap64 (x14_1 + 1)) a0_0 l0_1) = some (r1, r2) := by first | (rw [hy188]; with_reducible exact H) | (have H2_ := (Option.bind_some _ _).symm.trans H; rw [hy188]; with_reducible exact H2_) | (have H2_ := (Option.bind_some _ _).symm.trans H; with_reducible exact H2_) | with_reducible exact H | (rw [hy188]; exact H) | exact H
            have Ny188 := Aside0.mk hy188
            clear hy188; have H' := Aside0.mk H; clear H
            have p183 : 0 ≤ (x14_1 : Int) := of_decide_eq_true (by first | (with_reducible assumption) | assumption)
            have q183 : x14_1 < (l0_1.length : Int) := of_decide_eq_true (by first | (with_reducible assumption) | assumption)
            obtain ⟨ad183, e183, hx183_0, hx183_1, hx183_2⟩ := at_T44 HR0_1.out x14_1 p183 q183
            cases e183
            replace hx183_0 := (HB.out.cell (World.block_lt_of_cell? w _ hx183_0)).trans hx183_0
            replace hx183_1 := (HB.out.cell (World.block_lt_of_cell? w _ hx183_1)).trans hx183_1
            replace hx183_2 := (HB.out.cell (World.block_lt_of_cell? w _ hx183_2)).trans hx183_2
            replace p183 := eq_true p183
            replace q183 := eq_true q183
            try go_wp2_with (first | ((with_reducible refine gate_dst (N := 6) rfl ?_); refine box_event ?hg (N := 6) ?hd (cs := #[.int .i64 0, .int .i64 0, .int .i64 0]) (t := 44) ?hr ?_; (case hd => rfl); (case hg => rfl); (case hr => first | (go_simp; done) | (go_simp; rfl)); intro gb184 hg w21 hbox hb; have n0_ := Aside0.mk (Kd.R_below (by (with_reducible repeat (first | apply Kd.R_alloc | apply Kd.R_drewN | apply Kd.R_drew)); exact HO_4.out) hb); have n1_ := Aside0.mk (blk_below (g := gb178) (o := .cells #[.int .i64 a0_0, .slice (some ad183) l0_1.length c0_1] 30 (0, 0)) (by (with_reducible repeat (first | refine blk_drewN ?_ _ | refine blk_drew ?_ | refine blk_alloc ?_ _)); exact BK178.out) hb); have n2_ := Aside0.mk (below_step (by repeat (first | (with_reducible first | exact HB.out | apply below_alloc | apply pw_below_drewN | apply below_drew1 | refine below_set ?_ GE178.out) | exact HB.out)) hb); have n3_ := Aside0.mk (hbox); have n4_ := Aside0.mk ((by rw [hg]; exact (below_size (by repeat (first | (with_reducible first | exact HB.out | apply below_alloc | apply pw_below_drewN | apply below_drew1 | refine below_set ?_ GE178.out) | exact HB.out))) : w.heap.size ≤ gb184)); have n5_ := Aside0.mk ((by rw [hg]; exact (below_size (by repeat (first | (with_reducible first | exact HB.out | apply below_alloc | apply pw_below_drewN | apply below_drew1 | refine below_set ?_ GE178.out) | exact HB.out))) : w.heap.size ≤ gb184)); have n6_ := Aside0.mk ((by rw [hg]; exact Nat.ne_of_lt (blk_lt (g := gb178) (o := .cells #[.int .i64 a0_0, .slice (some ad183) l0_1.length c0_1] 30 (0, 0)) (by (with_reducible repeat (first | refine blk_drewN ?_ _ | refine blk_drew ?_ | refine blk_alloc ?_ _)); exact BK178.out)) : gb178 ≠ gb184)); have n7_ := Aside0.mk ((by rw [hg]; exact Nat.ne_of_gt (blk_lt (g := gb178) (o := .cells #[.int .i64 a0_0, .slice (some ad183) l0_1.length c0_1] 30 (0, 0)) (by (with_reducible repeat (first | refine blk_drewN ?_ _ | refine blk_drew ?_ | refine blk_alloc ?_ _)); exact BK178.out)) : gb184 ≠ gb178)); clear HO_4; clear BK178; clear HB; have HO_4 := n0_; have BK178 := n1_; have HB := n2_; have BK184 := n3_; have GW184 := n4_; have GE184 := n5_; have NB178_184 := n6_; have NB184_178 := n7_; clear n0_ n1_ n2_ n3_ n4_ n5_ n6_ n7_; clear hb hbox hg; have hnb22 := NB184_178.out; have hnc22 := NB178_184.out; have hcz23_0 : w21.cell? ⟨gb184, 0, none⟩ = some (.int .i64 0) := (blk_cell BK184.out 0).trans rfl; have hcz23_1 : w21.cell? ⟨gb184, 1, none⟩ = some (.int .i64 0) := (blk_cell BK184.out 1).trans rfl; have hcz23_2 : w21.cell? ⟨gb184, 2, none⟩ = some (.int .i64 0) := (blk_cell BK184.out 2).trans rfl; have hfz23_0 := blk_frozen BK184.out 0; have hfz23_1 := blk_frozen BK184.out 1; have hfz23_2 := blk_frozen BK184.out 2))
            have n0_ : Aside0 (Kd.R Kd.string 9 (((w21.setCell ⟨gb184, 0, none⟩ (.int .i64 ((rd_T44 l0_1 x14_1).f0))).setCell ⟨gb184, 1, none⟩ (.int .i64 ((rd_T44 l0_1 x14_1).f1))).setCell ⟨gb184, 2, none⟩ (.int .i64 ((rd_T44 l0_1 x14_1).f2))) w.heap.size (fun _ => True) u4 x4_1) := ⟨by (with_reducible repeat (first | apply Kd.R_alloc | apply Kd.R_drewN | apply Kd.R_drew)); exact Kd.R_mono (Kd.R_far (p := ⟨gb184, 2, none⟩) (Kd.R_far (p := ⟨gb184, 1, none⟩) (Kd.R_far (p := ⟨gb184, 0, none⟩) (Kd.R_types HO_4.out BK184.out (by decide)) (fun _ hk => hk.2) (.int .i64 ((rd_T44 l0_1 x14_1).f0))) (fun _ hk => hk.2) (.int .i64 ((rd_T44 l0_1 x14_1).f1))) (fun _ hk => hk.2) (.int .i64 ((rd_T44 l0_1 x14_1).f2))) (fun _ hk => trivial)⟩
            have n1_ : Aside0 ((((w21.setCell ⟨gb184, 0, none⟩ (.int .i64 ((rd_T44 l0_1 x14_1).f0))).setCell ⟨gb184, 1, none⟩ (.int .i64 ((rd_T44 l0_1 x14_1).f1))).setCell ⟨gb184, 2, none⟩ (.int .i64 ((rd_T44 l0_1 x14_1).f2))).heap[gb178]? = some (.cells #[.int .i64 a0_0, .slice (some ad183) l0_1.length c0_1] 30 (0, 0))) := ⟨by (with_reducible repeat (first | refine blk_drewN ?_ _ | refine blk_drew ?_ | refine blk_alloc ?_ _)); refine blk_far ?_ NB178_184.out _; (with_reducible repeat (first | refine blk_drewN ?_ _ | refine blk_drew ?_ | refine blk_alloc ?_ _)); refine blk_far ?_ NB178_184.out _; (with_reducible repeat (first | refine blk_drewN ?_ _ | refine blk_drew ?_ | refine blk_alloc ?_ _)); refine blk_far ?_ NB178_184.out _; (with_reducible repeat (first | refine blk_drewN ?_ _ | refine blk_drew ?_ | refine blk_alloc ?_ _)); exact BK178.out⟩
            have n2_ : Aside0 ((((w21.setCell ⟨gb184, 0, none⟩ (.int .i64 ((rd_T44 l0_1 x14_1).f0))).setCell ⟨gb184, 1, none⟩ (.int .i64 ((rd_T44 l0_1 x14_1).f1))).setCell ⟨gb184, 2, none⟩ (.int .i64 ((rd_T44 l0_1 x14_1).f2))).heap[gb184]? = some (.cells #[.int .i64 ((rd_T44 l0_1 x14_1).f0), .int .i64 ((rd_T44 l0_1 x14_1).f1), .int .i64 ((rd_T44 l0_1 x14_1).f2)] 44 (0, 0))) := ⟨by (with_reducible repeat (first | refine blk_drewN ?_ _ | refine blk_drew ?_ | refine blk_alloc ?_ _)); refine blk_put (cs := #[.int .i64 ((rd_T44 l0_1 x14_1).f0), .int .i64 ((rd_T44 l0_1 x14_1).f1), .int .i64 0]) ?_ 2 _ rfl; (with_reducible repeat (first | refine blk_drewN ?_ _ | refine blk_drew ?_ | refine blk_alloc ?_ _)); refine blk_put (cs := #[.int .i64 ((rd_T44 l0_1 x14_1).f0), .int .i64 0, .int .i64 0]) ?_ 1 _ rfl; (with_reducible repeat (first | refine blk_drewN ?_ _ | refine blk_drew ?_ | refine blk_alloc ?_ _)); refine blk_put (cs := #[.int .i64 0, .int .i64 0, .int .i64 0]) ?_ 0 _ rfl; (with_reducible repeat (first | refine blk_drewN ?_ _ | refine blk_drew ?_ | refine blk_alloc ?_ _)); exact BK184.out⟩
            have n3_ : Aside0 (Below w.heap.size w (((w21.setCell ⟨gb184, 0, none⟩ (.int .i64 ((rd_T44 l0_1 x14_1).f0))).setCell ⟨gb184, 1, none⟩ (.int .i64 ((rd_T44 l0_1 x14_1).f1))).setCell ⟨gb184, 2, none⟩ (.int .i64 ((rd_T44 l0_1 x14_1).f2)))) := ⟨by repeat (first | (with_reducible first | exact HB.out | apply below_alloc | apply pw_below_drewN | apply below_drew1 | refine below_set ?_ GE178.out | refine below_set ?_ GE184.out) | exact HB.out)⟩
            (try clear HO_4)
            (try clear BK178)
            (try clear BK184)
            (try clear HB)
            generalize (((w21.setCell ⟨gb184, 0, none⟩ (.int .i64 ((rd_T44 l0_1 x14_1).f0))).setCell ⟨gb184, 1, none⟩ (.int .i64 ((rd_T44 l0_1 x14_1).f1))).setCell ⟨gb184, 2, none⟩ (.int .i64 ((rd_T44 l0_1 x14_1).f2))) = w24 at n0_ n1_ n2_ n3_ ⊢
            have HO_4 := n0_; have BK178 := n1_; have BK184 := n2_; have HB := n3_; clear n0_ n1_ n2_ n3_
            have n0_ := Aside0.mk (Kd.R_drew HO_4.out)
            have n1_ := Aside0.mk (blk_drew BK178.out)
            have n2_ := Aside0.mk (blk_drew BK184.out)
            have n3_ := Aside0.mk (below_drew1 HB.out)
            clear HO_4; clear BK178; clear BK184; clear HB; have HO_4 := n0_; have BK178 := n1_; have BK184 := n2_; have HB := n3_; clear n0_ n1_ n2_ n3_
            refine start_ (n := 17) (S := fun w' => w'.cell? ⟨gb184, 0, none⟩ = some (.int .i64 ((rd_T44 l0_1 x14_1).f0)) ∧ w'.cell? ⟨gb184, 1, none⟩ = some (.int .i64 ((rd_T44 l0_1 x14_1).f1)) ∧ w'.cell? ⟨gb184, 2, none⟩ = some (.int .i64 ((rd_T44 l0_1 x14_1).f2))) (ds := []) #[false, false, false, false, false, false, false, false, false, false, false, false, false, false, false, false, false] (by kernel_rfl) rfl rfl ⟨(blk_cell BK184.out 0).trans rfl, (blk_cell BK184.out 1).trans rfl, (blk_cell BK184.out 2).trans rfl⟩ (fun hHeld => ?_); refine with_tabW impl_PuzzleText.tab7 impl_PuzzleText.bits7 (fun HT_ HW_ => ?_)
            generalize w24.drew = w25 at HO_4 BK178 BK184 HB hHeld ⊢
            refine pure_ (i := 0) (N := some 18) (v := ?_) (a' := ?_) #[true, false, false, false, false, false, false, false, false, false, false, false, false, false, false, false, false] rfl rfl (any_of HT_.out (by kernel_rfl)) (fun _ _ _ h => h) (Or.inl ⟨by rfl, ?_⟩) ?_ ?_
            rotate_left
            ·intro w'
             go_simp
             with_reducible rfl
            rotate_left
            ·simp only [Act.put, List.setIfInBounds_toArray, List.set_cons_zero, List.set_cons_succ, i64_w, i32_w]
             rfl
            refine pure_ (i := 1) (N := some 19) (v := ?_) (a' := ?_) #[true, true, false, false, false, false, false, false, false, false, false, false, false, false, false, false, false] rfl rfl (any_of HT_.out (by kernel_rfl)) (fun _ _ _ h => h) (Or.inl ⟨by rfl, ?_⟩) ?_ ?_
            rotate_left
            ·intro w'
             go_simp
             with_reducible rfl
            rotate_left
            ·simp only [Act.put, List.setIfInBounds_toArray, List.set_cons_zero, List.set_cons_succ, i64_w, i32_w]
             rfl
            refine pure_ (i := 5) (N := some 23) (v := ?_) (a' := ?_) #[true, true, false, false, false, true, false, false, false, false, false, false, false, false, false, false, false] rfl rfl (any_of HT_.out (by kernel_rfl)) (fun _ _ _ h => h) (Or.inl ⟨by rfl, ?_⟩) ?_ ?_
            rotate_left
            ·intro w'
             go_simp
             with_reducible rfl
            rotate_left
            ·simp only [Act.put, List.setIfInBounds_toArray, List.set_cons_zero, List.set_cons_succ, i64_w, i32_w]
             rfl
            refine pure_ (i := 10) (N := some 28) (v := ?_) (a' := ?_) #[true, true, false, false, false, true, false, false, false, false, true, false, false, false, false, false, false] rfl rfl (any_of HT_.out (by kernel_rfl)) (fun _ _ _ h => h) (Or.inl ⟨by rfl, ?_⟩) ?_ ?_
            rotate_left
            ·intro w'
             go_simp
             with_reducible rfl
            rotate_left
            ·simp only [Act.put, List.setIfInBounds_toArray, List.set_cons_zero, List.set_cons_succ, i64_w, i32_w]
             rfl
            refine take_ (i := 2) (N := some 20) (v := ?_) (a' := ?_) #[true, true, true, false, false, true, false, false, false, false, true, false, false, false, false, false, false] rfl rfl (take_ofW HT_.out HW_.out (by kernel_rfl)) (fun _ _ _ h => h) (Or.inl ⟨by rfl, ?_⟩) hHeld ?_ ?_
            rotate_left
            ·rintro w' ⟨s0, s1, s2⟩
             go_simp
             with_reducible rfl
            rotate_left
            ·simp only [Act.put, List.setIfInBounds_toArray, List.set_cons_zero, List.set_cons_succ, i64_w, i32_w]
             rfl
            refine take_ (i := 6) (N := some 24) (v := ?_) (a' := ?_) #[true, true, true, false, false, true, true, false, false, false, true, false, false, false, false, false, false] rfl rfl (take_ofW HT_.out HW_.out (by kernel_rfl)) (fun _ _ _ h => h) (Or.inl ⟨by rfl, ?_⟩) hHeld ?_ ?_
            rotate_left
            ·rintro w' ⟨s0, s1, s2⟩
             go_simp
             with_reducible rfl
            rotate_left
            ·simp only [Act.put, List.setIfInBounds_toArray, List.set_cons_zero, List.set_cons_succ, i64_w, i32_w]
             rfl
            refine take_ (i := 11) (N := some 29) (v := ?_) (a' := ?_) #[true, true, true, false, false, true, true, false, false, false, true, true, false, false, false, false, false] rfl rfl (take_ofW HT_.out HW_.out (by kernel_rfl)) (fun _ _ _ h => h) (Or.inl ⟨by rfl, ?_⟩) hHeld ?_ ?_
            rotate_left
            ·rintro w' ⟨s0, s1, s2⟩
             go_simp
             with_reducible rfl
            rotate_left
            ·simp only [Act.put, List.setIfInBounds_toArray, List.set_cons_zero, List.set_cons_succ, i64_w, i32_w]
             rfl
            refine one_ (i := 3) (N := some 21) #[true, true, true, true, false, true, true, false, false, false, true, true, false, false, false, false, false] rfl rfl (one_of HT_.out (by kernel_rfl)) (by decide) (fun K hK => ?_)
            refine goes_ Tryd.func19 (by kernel_rfl) rfl #[.int .i64 ((rd_T44 l0_1 x14_1).f0)] (by rfl) rfl rfl (by (try simp only [List.map_toArray, List.map_cons, List.map_nil]); first | done | rfl | (simp only [List.length_drop, List.length_take]; rfl)) ?_
            with_reducible refine (impl_text.calls ((rd_T44 l0_1 x14_1).f0) t185 _ (LaidP.below HL_.out (by repeat (first | (with_reducible first | exact HB.out | apply below_alloc | apply pw_below_drewN | apply below_drew1 | refine below_set ?_ GE178.out | refine below_set ?_ GE184.out) | exact HB.out))) A13.out).mono ?_
            rintro e w26 ⟨rfl, hb⟩
            refine ⟨_, rfl, ?_⟩
            have n0_ := Aside0.mk (Kd.R_below (by (with_reducible repeat (first | apply Kd.R_alloc | apply Kd.R_drewN | apply Kd.R_drew)); exact HO_4.out) hb)
            have n1_ := Aside0.mk (blk_below (g := gb178) (o := .cells #[.int .i64 a0_0, .slice (some ad183) l0_1.length c0_1] 30 (0, 0)) (by (with_reducible repeat (first | refine blk_drewN ?_ _ | refine blk_drew ?_ | refine blk_alloc ?_ _)); exact BK178.out) hb)
            have n2_ := Aside0.mk (blk_below (g := gb184) (o := .cells #[.int .i64 ((rd_T44 l0_1 x14_1).f0), .int .i64 ((rd_T44 l0_1 x14_1).f1), .int .i64 ((rd_T44 l0_1 x14_1).f2)] 44 (0, 0)) (by (with_reducible repeat (first | refine blk_drewN ?_ _ | refine blk_drew ?_ | refine blk_alloc ?_ _)); exact BK184.out) hb)
            have n3_ := Aside0.mk (below_step (by repeat (first | (with_reducible first | exact HB.out | apply below_alloc | apply pw_below_drewN | apply below_drew1 | refine below_set ?_ GE178.out | refine below_set ?_ GE184.out) | exact HB.out)) hb)
            clear HO_4; clear BK178; clear BK184; clear HB; have HO_4 := n0_; have BK178 := n1_; have BK184 := n2_; have HB := n3_; clear n0_ n1_ n2_ n3_
            (try clear hb)
            (try clear hb2)
            (try clear hk)
            (try clear hi)
            refine hK.out _ _ ⟨(blk_cell BK184.out 0).trans rfl, (blk_cell BK184.out 1).trans rfl, (blk_cell BK184.out 2).trans rfl⟩ (fun hHeld => ?_)
            clear hK K
            refine norm_ (a' := ?_) ?_ ?_
            rotate_left
            ·show Act.put _ (some 21) _ = _
             simp only [Act.put, List.setIfInBounds_toArray, List.set_cons_zero, List.set_cons_succ, i64_w, i32_w]
             rfl
            refine pure_ (i := 4) (N := some 22) (v := ?_) (a' := ?_) #[true, true, true, true, true, true, true, false, false, false, true, true, false, false, false, false, false] rfl rfl (any_of HT_.out (by kernel_rfl)) (fun _ _ _ h => h) (Or.inl ⟨by rfl, ?_⟩) ?_ ?_
            rotate_left
            ·intro w'
             go_simp
             with_reducible rfl
            rotate_left
            ·simp only [Act.put, List.setIfInBounds_toArray, List.set_cons_zero, List.set_cons_succ, i64_w, i32_w]
             rfl
            refine one_ (i := 7) (N := some 25) #[true, true, true, true, true, true, true, true, false, false, true, true, false, false, false, false, false] rfl rfl (one_of HT_.out (by kernel_rfl)) (by decide) (fun K hK => ?_)
            refine goes_ Tryd.func19 (by kernel_rfl) rfl #[.int .i64 ((rd_T44 l0_1 x14_1).f1)] (by rfl) rfl rfl (by (try simp only [List.map_toArray, List.map_cons, List.map_nil]); first | done | rfl | (simp only [List.length_drop, List.length_take]; rfl)) ?_
            with_reducible refine (impl_text.calls ((rd_T44 l0_1 x14_1).f1) t186 _ (LaidP.below HL_.out (by repeat (first | (with_reducible first | exact HB.out | apply below_alloc | apply pw_below_drewN | apply below_drew1 | refine below_set ?_ GE178.out | refine below_set ?_ GE184.out) | exact HB.out))) A15.out).mono ?_
            rintro e w27 ⟨rfl, hb⟩
            refine ⟨_, rfl, ?_⟩
            have n0_ := Aside0.mk (Kd.R_below (by (with_reducible repeat (first | apply Kd.R_alloc | apply Kd.R_drewN | apply Kd.R_drew)); exact HO_4.out) hb)
            have n1_ := Aside0.mk (blk_below (g := gb178) (o := .cells #[.int .i64 a0_0, .slice (some ad183) l0_1.length c0_1] 30 (0, 0)) (by (with_reducible repeat (first | refine blk_drewN ?_ _ | refine blk_drew ?_ | refine blk_alloc ?_ _)); exact BK178.out) hb)
            have n2_ := Aside0.mk (blk_below (g := gb184) (o := .cells #[.int .i64 ((rd_T44 l0_1 x14_1).f0), .int .i64 ((rd_T44 l0_1 x14_1).f1), .int .i64 ((rd_T44 l0_1 x14_1).f2)] 44 (0, 0)) (by (with_reducible repeat (first | refine blk_drewN ?_ _ | refine blk_drew ?_ | refine blk_alloc ?_ _)); exact BK184.out) hb)
            have n3_ := Aside0.mk (below_step (by repeat (first | (with_reducible first | exact HB.out | apply below_alloc | apply pw_below_drewN | apply below_drew1 | refine below_set ?_ GE178.out | refine below_set ?_ GE184.out) | exact HB.out)) hb)
            clear HO_4; clear BK178; clear BK184; clear HB; have HO_4 := n0_; have BK178 := n1_; have BK184 := n2_; have HB := n3_; clear n0_ n1_ n2_ n3_
            (try clear hb)
            (try clear hb2)
            (try clear hk)
            (try clear hi)
            refine hK.out _ _ ⟨(blk_cell BK184.out 0).trans rfl, (blk_cell BK184.out 1).trans rfl, (blk_cell BK184.out 2).trans rfl⟩ (fun hHeld => ?_)
            clear hK K
            refine norm_ (a' := ?_) ?_ ?_
            rotate_left
            ·show Act.put _ (some 25) _ = _
             simp only [Act.put, List.setIfInBounds_toArray, List.set_cons_zero, List.set_cons_succ, i64_w, i32_w]
             rfl
            refine pure_ (i := 8) (N := some 26) (v := ?_) (a' := ?_) #[true, true, true, true, true, true, true, true, true, false, true, true, false, false, false, false, false] rfl rfl (any_of HT_.out (by kernel_rfl)) (fun _ _ _ h => h) (Or.inl ⟨by rfl, ?_⟩) ?_ ?_
            rotate_left
            ·intro w'
             go_simp
             with_reducible rfl
            rotate_left
            ·simp only [Act.put, List.setIfInBounds_toArray, List.set_cons_zero, List.set_cons_succ, i64_w, i32_w]
             rfl
            refine pure_ (i := 9) (N := some 27) (v := ?_) (a' := ?_) #[true, true, true, true, true, true, true, true, true, true, true, true, false, false, false, false, false] rfl rfl (any_of HT_.out (by kernel_rfl)) (fun _ _ _ h => h) (Or.inl ⟨by rfl, ?_⟩) ?_ ?_
            rotate_left
            ·intro w'
             go_simp
             with_reducible rfl
            rotate_left
            ·simp only [Act.put, List.setIfInBounds_toArray, List.set_cons_zero, List.set_cons_succ, i64_w, i32_w]
             rfl
            refine one_ (i := 12) (N := some 30) #[true, true, true, true, true, true, true, true, true, true, true, true, true, false, false, false, false] rfl rfl (one_of HT_.out (by kernel_rfl)) (by decide) (fun K hK => ?_)
            refine goes_ Tryd.func19 (by kernel_rfl) rfl #[.int .i64 ((rd_T44 l0_1 x14_1).f2)] (by rfl) rfl rfl (by (try simp only [List.map_toArray, List.map_cons, List.map_nil]); first | done | rfl | (simp only [List.length_drop, List.length_take]; rfl)) ?_
            with_reducible refine (impl_text.calls ((rd_T44 l0_1 x14_1).f2) t187 _ (LaidP.below HL_.out (by repeat (first | (with_reducible first | exact HB.out | apply below_alloc | apply pw_below_drewN | apply below_drew1 | refine below_set ?_ GE178.out | refine below_set ?_ GE184.out) | exact HB.out))) A18.out).mono ?_
            rintro e w28 ⟨rfl, hb⟩
            refine ⟨_, rfl, ?_⟩
            have n0_ := Aside0.mk (Kd.R_below (by (with_reducible repeat (first | apply Kd.R_alloc | apply Kd.R_drewN | apply Kd.R_drew)); exact HO_4.out) hb)
            have n1_ := Aside0.mk (blk_below (g := gb178) (o := .cells #[.int .i64 a0_0, .slice (some ad183) l0_1.length c0_1] 30 (0, 0)) (by (with_reducible repeat (first | refine blk_drewN ?_ _ | refine blk_drew ?_ | refine blk_alloc ?_ _)); exact BK178.out) hb)
            have n2_ := Aside0.mk (blk_below (g := gb184) (o := .cells #[.int .i64 ((rd_T44 l0_1 x14_1).f0), .int .i64 ((rd_T44 l0_1 x14_1).f1), .int .i64 ((rd_T44 l0_1 x14_1).f2)] 44 (0, 0)) (by (with_reducible repeat (first | refine blk_drewN ?_ _ | refine blk_drew ?_ | refine blk_alloc ?_ _)); exact BK184.out) hb)
            have n3_ := Aside0.mk (below_step (by repeat (first | (with_reducible first | exact HB.out | apply below_alloc | apply pw_below_drewN | apply below_drew1 | refine below_set ?_ GE178.out | refine below_set ?_ GE184.out) | exact HB.out)) hb)
            clear HO_4; clear BK178; clear BK184; clear HB; have HO_4 := n0_; have BK178 := n1_; have BK184 := n2_; have HB := n3_; clear n0_ n1_ n2_ n3_
            (try clear hb)
            (try clear hb2)
            (try clear hk)
            (try clear hi)
            refine hK.out _ _ ⟨(blk_cell BK184.out 0).trans rfl, (blk_cell BK184.out 1).trans rfl, (blk_cell BK184.out 2).trans rfl⟩ (fun hHeld => ?_)
            clear hK K
            refine norm_ (a' := ?_) ?_ ?_
            rotate_left
            ·show Act.put _ (some 30) _ = _
             simp only [Act.put, List.setIfInBounds_toArray, List.set_cons_zero, List.set_cons_succ, i64_w, i32_w]
             rfl
            refine pure_ (i := 13) (N := some 31) (v := ?_) (a' := ?_) #[true, true, true, true, true, true, true, true, true, true, true, true, true, true, false, false, false] rfl rfl (any_of HT_.out (by kernel_rfl)) (fun _ _ _ h => h) (Or.inl ⟨by rfl, ?_⟩) ?_ ?_
            rotate_left
            ·intro w'
             go_simp
             with_reducible rfl
            rotate_left
            ·simp only [Act.put, List.setIfInBounds_toArray, List.set_cons_zero, List.set_cons_succ, i64_w, i32_w]
             rfl
            refine one_ (i := 14) (N := some 32) #[true, true, true, true, true, true, true, true, true, true, true, true, true, true, true, false, false] rfl rfl (one_of HT_.out (by kernel_rfl)) (by decide) (fun K hK => ?_)
            refine value_ (w1 := ?_) (v := ?_) (by rfl) rfl ?_ ?_
            rotate_left 2
            ·go_simp
             constructor
             ·rfl
             ·rfl
            refine hK.out _ _ ⟨(blk_cell (blk_alloc BK184.out _) 0).trans rfl, (blk_cell (blk_alloc BK184.out _) 1).trans rfl, (blk_cell (blk_alloc BK184.out _) 2).trans rfl⟩ (fun hHeld => ?_)
            clear hK K
            refine norm_ (a' := ?_) ?_ ?_
            rotate_left
            ·show Act.put _ (some 32) _ = _
             simp only [Act.put, List.setIfInBounds_toArray, List.set_cons_zero, List.set_cons_succ, i64_w, i32_w]
             rfl
            refine one_ (i := 15) (N := some 33) #[true, true, true, true, true, true, true, true, true, true, true, true, true, true, true, true, false] rfl rfl (one_of HT_.out (by kernel_rfl)) (by decide) (fun K hK => ?_)
            refine Kd.R_append_step Kd.string (w0 := w) w.heap.size (by rfl) (.tmp 18) (.tmp 32) 42 9 (.string ⟨#[]⟩) 16 rfl Tryd.underlying42 info9 rfl (by decide) (by omega) u4 x4_1 ((((t185 ++ (⟨#[46]⟩ : ByteArray)) ++ t186) ++ (⟨#[46]⟩ : ByteArray)) ++ t187) [.string ((((t185 ++ (⟨#[46]⟩ : ByteArray)) ++ t186) ++ (⟨#[46]⟩ : ByteArray)) ++ t187)] (fun _ => True) (fun _ => False) rfl rfl ?aP (fun _ hk => hk.elim) ?aF ?aO ?aB ?aS ?aL ?_
            (case aP => exact rfl)
            (case aB => exact (by repeat (first | (with_reducible first | exact HB.out | apply below_alloc | apply pw_below_drewN | apply below_drew1 | refine below_set ?_ GE178.out | refine below_set ?_ GE184.out) | exact HB.out)))
            (case aF => exact (fun _ _ => trivial))
            (case aO => exact (by (with_reducible repeat (first | apply Kd.R_alloc | apply Kd.R_drewN | apply Kd.R_drew)); exact HO_4.out))
            (case aS => exact (below_size (by repeat (first | (with_reducible first | exact HB.out | apply below_alloc | apply pw_below_drewN | apply below_drew1 | refine below_set ?_ GE178.out | refine below_set ?_ GE184.out) | exact HB.out))))
            (case aL => have := LMc20.out; omega)
            intro v189 w29 ho hb hg hat
            rw [← Ny188.out] at ho
            have n0_ := Aside0.mk (blk_grown (g := gb178) (o := .cells #[.int .i64 a0_0, .slice (some ad183) l0_1.length c0_1] 30 (0, 0)) (by (with_reducible repeat (first | refine blk_drewN ?_ _ | refine blk_drew ?_ | refine blk_alloc ?_ _)); exact BK178.out) hg (Kd.R_ne HO_4.out BK178.out (by decide)))
            have n1_ := Aside0.mk (blk_grown (g := gb184) (o := .cells #[.int .i64 ((rd_T44 l0_1 x14_1).f0), .int .i64 ((rd_T44 l0_1 x14_1).f1), .int .i64 ((rd_T44 l0_1 x14_1).f2)] 44 (0, 0)) (by (with_reducible repeat (first | refine blk_drewN ?_ _ | refine blk_drew ?_ | refine blk_alloc ?_ _)); exact BK184.out) hg (Kd.R_ne HO_4.out BK184.out (by decide)))
            have n2_ := Aside0.mk (hb)
            have n3_ := Aside0.mk (ho)
            clear BK178; clear BK184; clear HB; clear HO_4; have BK178 := n0_; have BK184 := n1_; have HB := n2_; have HO190 := n3_; clear n0_ n1_ n2_ n3_; clear ho hb hg hat
            refine hK.out _ _ ⟨(blk_cell BK184.out 0).trans rfl, (blk_cell BK184.out 1).trans rfl, (blk_cell BK184.out 2).trans rfl⟩ (fun hHeld => ?_)
            clear hK K
            refine norm_ (a' := ?_) ?_ ?_
            rotate_left
            ·show Act.put _ (some 33) _ = _
             simp only [Act.put, List.setIfInBounds_toArray, List.set_cons_zero, List.set_cons_succ, i64_w, i32_w]
             rfl
            refine pure_ (i := 16) (N := some 4) (v := ?_) (a' := ?_) #[true, true, true, true, true, true, true, true, true, true, true, true, true, true, true, true, true] rfl rfl (any_of HT_.out (by kernel_rfl)) (fun _ _ _ h => h) (Or.inl ⟨by rfl, ?_⟩) ?_ ?_
            rotate_left
            ·intro w'
             go_simp
             with_reducible rfl
            rotate_left
            ·simp only [Act.put, List.setIfInBounds_toArray, List.set_cons_zero, List.set_cons_succ, i64_w, i32_w]
             rfl
            refine done_ (done_of HT_.out (by kernel_rfl)) ?_
            try go_wp2
            go_roundg k1
            case measure => have := HK1.out; omega
            case rel => exact ⟨(y188), (wrap64 (x14_1 + 1)), (by first | rfl | (simp; done) | (simp [*]; done)), H', ⟨by have := HK1.out; omega⟩, ⟨by (with_reducible repeat (first | apply Kd.R_alloc | apply Kd.R_drewN | apply Kd.R_drew)); exact HO190.out⟩, ⟨by (with_reducible repeat (first | refine blk_drewN ?_ _ | refine blk_drew ?_ | refine blk_alloc ?_ _)); exact BK178.out⟩, ⟨by repeat (first | (with_reducible first | exact HB.out | apply below_alloc | apply pw_below_drewN | apply below_drew1 | refine below_set ?_ GE178.out | refine below_set ?_ GE184.out) | exact HB.out)⟩⟩
           ·rw [if_neg c20] at H
            exact absurd H (by simp)
          ·rw [if_neg c19] at H
           exact absurd H (by simp)
         ·rw [if_neg c17] at H
          exact absurd H (by simp)
        ·rw [if_neg c16] at H
         exact absurd H (by simp)
       ·rw [if_neg c14] at H
        exact absurd H (by simp)
      ·rw [if_neg c12] at H
       exact absurd H (by simp)
     ·rw [if_neg c11] at H
      exact absurd H (by simp)
    ·rw [if_neg c10] at H
     have c10b0 : decide (x14_1 < (l0_1.length : Int)) = false := decide_eq_false c10; clear c10; replace H := Option.bind_eq_some_iff.mp H
     obtain ⟨t191, A300, H⟩ := H
     replace H : (if t191.size + 1 ≤ 9223372036854775807 then ((strings_Join.f x4_1 (⟨#[44]⟩ : ByteArray)).bind fun t192 => (if (t191 ++ (⟨#[119]⟩ : ByteArray)).size + t192.size ≤ 9223372036854775807 then (some ((t191 ++ (⟨#[119]⟩ : ByteArray)) ++ t192, true)) else (none))) else (none)) = some (r1, r2) := H
     have A30 := Aside0.mk A300
     clear A300
     by_cases c31 : t191.size + 1 ≤ 9223372036854775807
     ·rw [if_pos c31] at H
      have c31b0 := eq_true c31
      have c31b1 : decide (t191.size + 1 ≤ 9223372036854775807) = true := decide_eq_true c31
      try have c31b2 : (9223372036854775807 < t191.size + 1) = False := eq_false (Nat.not_lt.2 c31)
      replace H := Option.bind_eq_some_iff.mp H
      obtain ⟨t192, A320, H⟩ := H
      replace H : (if (t191 ++ (⟨#[119]⟩ : ByteArray)).size + t192.size ≤ 9223372036854775807 then (some ((t191 ++ (⟨#[119]⟩ : ByteArray)) ++ t192, true)) else (none)) = some (r1, r2) := H
      have A32 := Aside0.mk A320
      clear A320
      by_cases c33 : (t191 ++ (⟨#[119]⟩ : ByteArray)).size + t192.size ≤ 9223372036854775807
      ·rw [if_pos c33] at H
       have c33b0 := eq_true c33
       have c33b1 : decide ((t191 ++ (⟨#[119]⟩ : ByteArray)).size + t192.size ≤ 9223372036854775807) = true := decide_eq_true c33
       try have c33b2 : (9223372036854775807 < (t191 ++ (⟨#[119]⟩ : ByteArray)).size + t192.size) = False := eq_false (Nat.not_lt.2 c33)
       try (have c33b2s := Nat.not_lt.2 c33; simp only [ByteArray.size_append, show (⟨#[119]⟩ : ByteArray).size = 1 from rfl, show (⟨#[44]⟩ : ByteArray).size = 1 from rfl, show (⟨#[46]⟩ : ByteArray).size = 1 from rfl, show (⟨#[]⟩ : ByteArray).size = 0 from rfl] at c33b2s; replace c33b2s := eq_false c33b2s)
       simp only [Option.some.injEq, Prod.mk.injEq] at H
       obtain ⟨rfl, rfl⟩ := H
       have hcz34_0 : wr.cell? ⟨gb178, 0, none⟩ = some (.int .i64 a0_0) := (blk_cell BK178.out 0).trans rfl
       have hcz34_1 : wr.cell? ⟨gb178, 1, none⟩ = some (.slice A0_1 l0_1.length c0_1) := (blk_cell BK178.out 1).trans rfl
       have hfz34_0 := blk_frozen BK178.out 0
       have hfz34_1 := blk_frozen BK178.out 1
       go_wp2_with (first | ((with_reducible refine gate_callee (f := 19) rfl ?_); refine goesL_ (some 37) rfl rfl Tryd.func19 (by kernel_rfl) rfl #[.int .i64 a0_0] rfl (by (try simp only [List.map_toArray, List.map_cons, List.map_nil]); first | done | rfl | (simp only [List.length_drop, List.length_take]; rfl)) ?_; (with_reducible refine (impl_text.calls a0_0 t191 _ (LaidP.below HL_.out (by repeat (first | (with_reducible first | exact HB.out | apply below_alloc | apply pw_below_drewN | apply below_drew1 | refine below_set ?_ GE178.out) | exact HB.out))) A30.out).mono ?_); rintro e w35 ⟨rfl, hb⟩; refine ⟨_, rfl, ?_⟩; have n0_ := Aside0.mk (Kd.R_below (by (with_reducible repeat (first | apply Kd.R_alloc | apply Kd.R_drewN | apply Kd.R_drew)); exact HO_4.out) hb); have n1_ := Aside0.mk (blk_below (g := gb178) (o := .cells #[.int .i64 a0_0, .slice A0_1 l0_1.length c0_1] 30 (0, 0)) (by (with_reducible repeat (first | refine blk_drewN ?_ _ | refine blk_drew ?_ | refine blk_alloc ?_ _)); exact BK178.out) hb); have n2_ := Aside0.mk (below_step (by repeat (first | (with_reducible first | exact HB.out | apply below_alloc | apply pw_below_drewN | apply below_drew1 | refine below_set ?_ GE178.out) | exact HB.out)) hb); clear HO_4; clear BK178; clear HB; have HO_4 := n0_; have BK178 := n1_; have HB := n2_; clear n0_ n1_ n2_; (try clear hb); (try clear hb2); (try clear hk); (try clear hi); obtain ⟨Ao36, co36, eo36⟩ := Kd.R_slice HO_4.out; subst eo36) | ((with_reducible refine gate_callee (f := 20) rfl ?_); refine goesL_ (some 40) rfl rfl Tryd.func20 (by kernel_rfl) rfl #[.slice Ao36 x4_1.length co36, .string (⟨#[44]⟩ : ByteArray)] rfl (by (try simp only [List.map_toArray, List.map_cons, List.map_nil]); first | done | rfl | (simp only [List.length_drop, List.length_take]; rfl)) ?_; (with_reducible refine (strings_Join.calls _ _ x4_1 (⟨#[44]⟩ : ByteArray) t192 _ ?side1 ?side2 A32.out).mono ?_); (case side1 => repeat (first | exact (Kd.R_reads' HO_4.out).2.2 | (with_reducible refine Kd.C_alloc ?_ _) | (with_reducible refine Kd.C_drewN ?_ _) | (with_reducible refine Kd.C_drew ?_))); (case side2 => exact (Kd.R_reads' HO_4.out).2.1); rintro e w37 ⟨rfl, hb⟩; refine ⟨_, rfl, ?_⟩; have n0_ := Aside0.mk (Kd.R_below (by (with_reducible repeat (first | apply Kd.R_alloc | apply Kd.R_drewN | apply Kd.R_drew)); exact HO_4.out) hb); have n1_ := Aside0.mk (blk_below (g := gb178) (o := .cells #[.int .i64 a0_0, .slice A0_1 l0_1.length c0_1] 30 (0, 0)) (by (with_reducible repeat (first | refine blk_drewN ?_ _ | refine blk_drew ?_ | refine blk_alloc ?_ _)); exact BK178.out) hb); have n2_ := Aside0.mk (below_step (by repeat (first | (with_reducible first | exact HB.out | apply below_alloc | apply pw_below_drewN | apply below_drew1 | refine below_set ?_ GE178.out) | exact HB.out)) hb); clear HO_4; clear BK178; clear HB; have HO_4 := n0_; have BK178 := n1_; have HB := n2_; clear n0_ n1_ n2_; (try clear hb); (try clear hb2); (try clear hk); (try clear hi)))
       go_ret2
       exact ⟨by first | rfl | (simp [errW_none, errW_some] <;> rfl) | (simp [*, errW_none, errW_some] <;> rfl), by repeat (first | (with_reducible first | exact HB.out | apply below_alloc | apply pw_below_drewN | apply below_drew1 | refine below_set ?_ GE178.out) | exact HB.out)⟩
      ·rw [if_neg c33] at H
       exact absurd H (by simp)
     ·rw [if_neg c31] at H
      exact absurd H (by simp)
 ·replace c3 := Bool.eq_false_iff.mpr c3
  subst c3
  have H1 : (some ((⟨#[]⟩ : ByteArray), false)) = some (r1, r2) := by rw [if_neg (show ¬ (false = true) by decide)] at H; exact H
  clear H; have H := H1; clear H1
  simp only [Option.some.injEq, Prod.mk.injEq] at H
  obtain ⟨rfl, rfl⟩ := H
  go_enter Tryd.func8, Tryd.ntmps8
  go_wp2_with (first | ((with_reducible refine gate_dst (N := 1) rfl ?_); refine box_event ?hg (N := 1) ?hd (cs := #[.int .i64 a0_0, .slice A0_1 l0_1.length c0_1]) (t := 30) ?hr ?_; (case hd => rfl); (case hg => rfl); (case hr => first | (go_simp; done) | (go_simp; rfl)); intro gb178 hg w38 hbox hb; have n0_ := Aside0.mk (below_step (by repeat (first | (with_reducible first | exact HB.out | apply below_alloc | apply pw_below_drewN | apply below_drew1) | exact HB.out)) hb); have n1_ := Aside0.mk (hbox); have n2_ := Aside0.mk ((by rw [hg]; exact (below_size (by repeat (first | (with_reducible first | exact HB.out | apply below_alloc | apply pw_below_drewN | apply below_drew1) | exact HB.out))) : w.heap.size ≤ gb178)); have n3_ := Aside0.mk ((by rw [hg]; exact (below_size (by repeat (first | (with_reducible first | exact HB.out | apply below_alloc | apply pw_below_drewN | apply below_drew1) | exact HB.out))) : w.heap.size ≤ gb178)); clear HB; have HB := n0_; have BK178 := n1_; have GW178 := n2_; have GE178 := n3_; clear n0_ n1_ n2_ n3_; clear hb hbox hg; have hcz39_0 : w38.cell? ⟨gb178, 0, none⟩ = some (.int .i64 a0_0) := (blk_cell BK178.out 0).trans rfl; have hcz39_1 : w38.cell? ⟨gb178, 1, none⟩ = some (.slice A0_1 l0_1.length c0_1) := (blk_cell BK178.out 1).trans rfl; have hfz39_0 := blk_frozen BK178.out 0; have hfz39_1 := blk_frozen BK178.out 1) | ((with_reducible refine gate_callee (f := 18) rfl ?_); refine goesL_ (some 8) rfl rfl Tryd.func18 (by kernel_rfl) rfl #[.agg #[.int .i64 a0_0, .slice A0_1 l0_1.length c0_1]] rfl (by (try simp only [List.map_toArray, List.map_cons, List.map_nil]); first | done | rfl | (simp only [List.length_drop, List.length_take]; rfl)) ?_; (with_reducible refine (impl_IsPuzzle.calls k a0_0 _ _ l0_1 false _ ?side1 ?side2 A2.out).mono ?_); (case side1 => repeat (first | exact (Kd.C_below HR0_1.out HB.out) | (with_reducible refine Kd.C_alloc ?_ _) | (with_reducible refine Kd.C_drewN ?_ _) | (with_reducible refine Kd.C_drew ?_))); (case side2 => exact HC0_1.out); rintro e w40 ⟨rfl, hb⟩; refine ⟨_, rfl, ?_⟩; have n0_ := Aside0.mk (blk_below (g := gb178) (o := .cells #[.int .i64 a0_0, .slice A0_1 l0_1.length c0_1] 30 (0, 0)) (by (with_reducible repeat (first | refine blk_drewN ?_ _ | refine blk_drew ?_ | refine blk_alloc ?_ _)); exact BK178.out) hb); have n1_ := Aside0.mk (below_step (by repeat (first | (with_reducible first | exact HB.out | apply below_alloc | apply pw_below_drewN | apply below_drew1 | refine below_set ?_ GE178.out) | exact HB.out)) hb); clear BK178; clear HB; have BK178 := n0_; have HB := n1_; clear n0_ n1_; (try clear hb); (try clear hb2); (try clear hk); (try clear hi)))
  go_ret2
  exact ⟨by first | rfl | (simp [errW_none, errW_some] <;> rfl) | (simp [*, errW_none, errW_some] <;> rfl), by repeat (first | (with_reducible first | exact HB.out | apply below_alloc | apply pw_below_drewN | apply below_drew1 | refine below_set ?_ GE178.out) | exact HB.out)⟩

end Go.Proofs.YthioojdannlhiaaDoor.P

namespace Go.Proofs.YthioojdannlhiaaDoor.P
open Go.RowKit Go.Proofs.YthioojdannlhiaaDoorW.PrintWords Go.Proofs.YthioojdannlhiaaDoorW.PrintLast Go.Proofs.YthioojdannlhiaaDoorW.PrintMore
attribute [local go_sem] max2_int min2_int max_two min_two max_three min_three max_four min_four   -- for this text's walks alone
set_option linter.unusedVariables false
set_option linter.unusedSimpArgs false

/-! ### spec_PuzzleText: function 6 -/
def spec_PuzzleText.f (k : Nat) (a0_0 : Int) (l0_1 : List (S44)) : Option (ByteArray × Bool) := (spec_pzGood.f k a0_0 l0_1).bind fun t130 => (if t130 = true then ((spec_pzText.f k a0_0 l0_1).bind fun t131 => (some (t131, true))) else (some ((⟨#[]⟩ : ByteArray), false)))
set_option maxHeartbeats 8000000 in
set_option maxRecDepth 100000 in
theorem spec_PuzzleText.calls (k : Nat) (a0_0 : Int) (A0_1 : Option Addr) (c0_1 : Nat) (l0_1 : List (S44)) (r1 : ByteArray) (r2 : Bool) (w : World) (hr0_1 : Kd.C k44 w A0_1 l0_1.length l0_1) (hc0_1 : l0_1.length ≤ c0_1) (h : spec_PuzzleText.f k a0_0 l0_1 = some (r1, r2)) :
  Calls Tryd.prog 6 #[.agg #[.int .i64 a0_0, .slice A0_1 l0_1.length c0_1]] w fun e w' => e = .returned (.tuple #[.string r1, .bool r2]) ∧ Below w.heap.size w w' := by
 have hu30 := Tryd.underlying30
 have HR0_1 := Aside0.mk hr0_1
 have HC0_1 := Aside0.mk hc0_1
 clear hr0_1 hc0_1
 have HB := Aside0.mk (Below.refl w.heap.size w)
 have H : ((spec_pzGood.f k a0_0 l0_1).bind fun t130 => (if t130 = true then ((spec_pzText.f k a0_0 l0_1).bind fun t131 => (some (t131, true))) else (some ((⟨#[]⟩ : ByteArray), false)))) = some (r1, r2) := h
 clear h; replace H := Option.bind_eq_some_iff.mp H
 obtain ⟨t130, A20, H⟩ := H
 replace H : (if t130 = true then ((spec_pzText.f k a0_0 l0_1).bind fun t131 => (some (t131, true))) else (some ((⟨#[]⟩ : ByteArray), false))) = some (r1, r2) := H
 have A2 := Aside0.mk A20
 clear A20
 by_cases c3 : t130 = true
 ·subst c3
  have H1 : ((spec_pzText.f k a0_0 l0_1).bind fun t131 => (some (t131, true))) = some (r1, r2) := by rw [if_pos rfl] at H; exact H
  clear H; have H := H1; clear H1; replace H := Option.bind_eq_some_iff.mp H
  obtain ⟨t131, A40, H⟩ := H
  replace H : (some (t131, true)) = some (r1, r2) := H
  have A4 := Aside0.mk A40
  clear A40
  simp only [Option.some.injEq, Prod.mk.injEq] at H
  obtain ⟨rfl, rfl⟩ := H
  go_enter Tryd.func6, Tryd.ntmps6
  go_wp2_with (first | ((with_reducible refine gate_dst (N := 1) rfl ?_); refine box_event ?hg (N := 1) ?hd (cs := #[.int .i64 a0_0, .slice A0_1 l0_1.length c0_1]) (t := 30) ?hr ?_; (case hd => rfl); (case hg => rfl); (case hr => first | (go_simp; done) | (go_simp; rfl)); intro gb129 hg w5 hbox hb; have n0_ := Aside0.mk (below_step (by repeat (first | (with_reducible first | exact HB.out | apply below_alloc | apply pw_below_drewN | apply below_drew1) | exact HB.out)) hb); have n1_ := Aside0.mk (hbox); have n2_ := Aside0.mk ((by rw [hg]; exact (below_size (by repeat (first | (with_reducible first | exact HB.out | apply below_alloc | apply pw_below_drewN | apply below_drew1) | exact HB.out))) : w.heap.size ≤ gb129)); have n3_ := Aside0.mk ((by rw [hg]; exact (below_size (by repeat (first | (with_reducible first | exact HB.out | apply below_alloc | apply pw_below_drewN | apply below_drew1) | exact HB.out))) : w.heap.size ≤ gb129)); clear HB; have HB := n0_; have BK129 := n1_; have GW129 := n2_; have GE129 := n3_; clear n0_ n1_ n2_ n3_; clear hb hbox hg; have hcz6_0 : w5.cell? ⟨gb129, 0, none⟩ = some (.int .i64 a0_0) := (blk_cell BK129.out 0).trans rfl; have hcz6_1 : w5.cell? ⟨gb129, 1, none⟩ = some (.slice A0_1 l0_1.length c0_1) := (blk_cell BK129.out 1).trans rfl; have hfz6_0 := blk_frozen BK129.out 0; have hfz6_1 := blk_frozen BK129.out 1) | ((with_reducible refine gate_callee (f := 15) rfl ?_); refine goesL_ (some 5) rfl rfl Tryd.func15 (by kernel_rfl) rfl #[.agg #[.int .i64 a0_0, .slice A0_1 l0_1.length c0_1]] rfl (by (try simp only [List.map_toArray, List.map_cons, List.map_nil]); first | done | rfl | (simp only [List.length_drop, List.length_take]; rfl)) ?_; (with_reducible refine (spec_pzGood.calls k a0_0 _ _ l0_1 true _ ?side1 ?side2 A2.out).mono ?_); (case side1 => repeat (first | exact (Kd.C_below HR0_1.out HB.out) | (with_reducible refine Kd.C_alloc ?_ _) | (with_reducible refine Kd.C_drewN ?_ _) | (with_reducible refine Kd.C_drew ?_))); (case side2 => exact HC0_1.out); rintro e w7 ⟨rfl, hb⟩; refine ⟨_, rfl, ?_⟩; have n0_ := Aside0.mk (blk_below (g := gb129) (o := .cells #[.int .i64 a0_0, .slice A0_1 l0_1.length c0_1] 30 (0, 0)) (by (with_reducible repeat (first | refine blk_drewN ?_ _ | refine blk_drew ?_ | refine blk_alloc ?_ _)); exact BK129.out) hb); have n1_ := Aside0.mk (below_step (by repeat (first | (with_reducible first | exact HB.out | apply below_alloc | apply pw_below_drewN | apply below_drew1 | refine below_set ?_ GE129.out) | exact HB.out)) hb); clear BK129; clear HB; have BK129 := n0_; have HB := n1_; clear n0_ n1_; (try clear hb); (try clear hb2); (try clear hk); (try clear hi); have hcz8_0 : w7.cell? ⟨gb129, 0, none⟩ = some (.int .i64 a0_0) := (blk_cell BK129.out 0).trans rfl; have hcz8_1 : w7.cell? ⟨gb129, 1, none⟩ = some (.slice A0_1 l0_1.length c0_1) := (blk_cell BK129.out 1).trans rfl; have hfz8_0 := blk_frozen BK129.out 0; have hfz8_1 := blk_frozen BK129.out 1) | ((with_reducible refine gate_callee (f := 16) rfl ?_); refine goesL_ (some 8) rfl rfl Tryd.func16 (by kernel_rfl) rfl #[.agg #[.int .i64 a0_0, .slice A0_1 l0_1.length c0_1]] rfl (by (try simp only [List.map_toArray, List.map_cons, List.map_nil]); first | done | rfl | (simp only [List.length_drop, List.length_take]; rfl)) ?_; (with_reducible refine (spec_pzText.calls k a0_0 _ _ l0_1 t131 _ ?side1 ?side2 A4.out).mono ?_); (case side1 => repeat (first | exact (Kd.C_below HR0_1.out HB.out) | (with_reducible refine Kd.C_alloc ?_ _) | (with_reducible refine Kd.C_drewN ?_ _) | (with_reducible refine Kd.C_drew ?_))); (case side2 => exact HC0_1.out); rintro e w9 ⟨rfl, hb⟩; refine ⟨_, rfl, ?_⟩; have n0_ := Aside0.mk (blk_below (g := gb129) (o := .cells #[.int .i64 a0_0, .slice A0_1 l0_1.length c0_1] 30 (0, 0)) (by (with_reducible repeat (first | refine blk_drewN ?_ _ | refine blk_drew ?_ | refine blk_alloc ?_ _)); exact BK129.out) hb); have n1_ := Aside0.mk (below_step (by repeat (first | (with_reducible first | exact HB.out | apply below_alloc | apply pw_below_drewN | apply below_drew1 | refine below_set ?_ GE129.out) | exact HB.out)) hb); clear BK129; clear HB; have BK129 := n0_; have HB := n1_; clear n0_ n1_; (try clear hb); (try clear hb2); (try clear hk); (try clear hi)))
  go_ret2
  exact ⟨by first | rfl | (simp [errW_none, errW_some] <;> rfl) | (simp [*, errW_none, errW_some] <;> rfl), by repeat (first | (with_reducible first | exact HB.out | apply below_alloc | apply pw_below_drewN | apply below_drew1 | refine below_set ?_ GE129.out) | exact HB.out)⟩
 ·replace c3 := Bool.eq_false_iff.mpr c3
  subst c3
  have H1 : (some ((⟨#[]⟩ : ByteArray), false)) = some (r1, r2) := by rw [if_neg (show ¬ (false = true) by decide)] at H; exact H
  clear H; have H := H1; clear H1
  simp only [Option.some.injEq, Prod.mk.injEq] at H
  obtain ⟨rfl, rfl⟩ := H
  go_enter Tryd.func6, Tryd.ntmps6
  go_wp2_with (first | ((with_reducible refine gate_dst (N := 1) rfl ?_); refine box_event ?hg (N := 1) ?hd (cs := #[.int .i64 a0_0, .slice A0_1 l0_1.length c0_1]) (t := 30) ?hr ?_; (case hd => rfl); (case hg => rfl); (case hr => first | (go_simp; done) | (go_simp; rfl)); intro gb129 hg w10 hbox hb; have n0_ := Aside0.mk (below_step (by repeat (first | (with_reducible first | exact HB.out | apply below_alloc | apply pw_below_drewN | apply below_drew1) | exact HB.out)) hb); have n1_ := Aside0.mk (hbox); have n2_ := Aside0.mk ((by rw [hg]; exact (below_size (by repeat (first | (with_reducible first | exact HB.out | apply below_alloc | apply pw_below_drewN | apply below_drew1) | exact HB.out))) : w.heap.size ≤ gb129)); have n3_ := Aside0.mk ((by rw [hg]; exact (below_size (by repeat (first | (with_reducible first | exact HB.out | apply below_alloc | apply pw_below_drewN | apply below_drew1) | exact HB.out))) : w.heap.size ≤ gb129)); clear HB; have HB := n0_; have BK129 := n1_; have GW129 := n2_; have GE129 := n3_; clear n0_ n1_ n2_ n3_; clear hb hbox hg; have hcz11_0 : w10.cell? ⟨gb129, 0, none⟩ = some (.int .i64 a0_0) := (blk_cell BK129.out 0).trans rfl; have hcz11_1 : w10.cell? ⟨gb129, 1, none⟩ = some (.slice A0_1 l0_1.length c0_1) := (blk_cell BK129.out 1).trans rfl; have hfz11_0 := blk_frozen BK129.out 0; have hfz11_1 := blk_frozen BK129.out 1) | ((with_reducible refine gate_callee (f := 15) rfl ?_); refine goesL_ (some 5) rfl rfl Tryd.func15 (by kernel_rfl) rfl #[.agg #[.int .i64 a0_0, .slice A0_1 l0_1.length c0_1]] rfl (by (try simp only [List.map_toArray, List.map_cons, List.map_nil]); first | done | rfl | (simp only [List.length_drop, List.length_take]; rfl)) ?_; (with_reducible refine (spec_pzGood.calls k a0_0 _ _ l0_1 false _ ?side1 ?side2 A2.out).mono ?_); (case side1 => repeat (first | exact (Kd.C_below HR0_1.out HB.out) | (with_reducible refine Kd.C_alloc ?_ _) | (with_reducible refine Kd.C_drewN ?_ _) | (with_reducible refine Kd.C_drew ?_))); (case side2 => exact HC0_1.out); rintro e w12 ⟨rfl, hb⟩; refine ⟨_, rfl, ?_⟩; have n0_ := Aside0.mk (blk_below (g := gb129) (o := .cells #[.int .i64 a0_0, .slice A0_1 l0_1.length c0_1] 30 (0, 0)) (by (with_reducible repeat (first | refine blk_drewN ?_ _ | refine blk_drew ?_ | refine blk_alloc ?_ _)); exact BK129.out) hb); have n1_ := Aside0.mk (below_step (by repeat (first | (with_reducible first | exact HB.out | apply below_alloc | apply pw_below_drewN | apply below_drew1 | refine below_set ?_ GE129.out) | exact HB.out)) hb); clear BK129; clear HB; have BK129 := n0_; have HB := n1_; clear n0_ n1_; (try clear hb); (try clear hb2); (try clear hk); (try clear hi)))
  go_ret2
  exact ⟨by first | rfl | (simp [errW_none, errW_some] <;> rfl) | (simp [*, errW_none, errW_some] <;> rfl), by repeat (first | (with_reducible first | exact HB.out | apply below_alloc | apply pw_below_drewN | apply below_drew1 | refine below_set ?_ GE129.out) | exact HB.out)⟩

end Go.Proofs.YthioojdannlhiaaDoor.P

namespace Go.Proofs.YthioojdannlhiaaDoor.P
open Go.RowKit Go.Proofs.YthioojdannlhiaaDoorW.PrintWords Go.Proofs.YthioojdannlhiaaDoorW.PrintLast Go.Proofs.YthioojdannlhiaaDoorW.PrintMore
set_option linter.unusedVariables false
set_option linter.unusedSimpArgs false
theorem spec_l1In.eq (a lo hi : Int) : spec_l1In.f a lo hi = some (inr lo hi a) := by
 unfold spec_l1In.f inr
 by_cases h : a ≥ lo
 ·rw [if_pos h]; simp [show lo ≤ a from h]
 ·rw [if_neg h]; simp [show ¬ lo ≤ a from h]
end Go.Proofs.YthioojdannlhiaaDoor.P

namespace Go.Proofs.YthioojdannlhiaaDoor.P
open Go.RowKit Go.Proofs.YthioojdannlhiaaDoorW.PrintWords Go.Proofs.YthioojdannlhiaaDoorW.PrintLast Go.Proofs.YthioojdannlhiaaDoorW.PrintMore
set_option linter.unusedVariables false
set_option linter.unusedSimpArgs false
theorem impl_within.eq (a lo hi : Int) : impl_within.f a lo hi = some (inr lo hi a) := by
 unfold impl_within.f inr
 by_cases h : a ≥ lo
 ·rw [if_pos h]; simp [show lo ≤ a from h]
 ·rw [if_neg h]; simp [show ¬ lo ≤ a from h]
end Go.Proofs.YthioojdannlhiaaDoor.P

namespace Go.Proofs.YthioojdannlhiaaDoor.P
open Go.RowKit Go.Proofs.YthioojdannlhiaaDoorW.PrintWords Go.Proofs.YthioojdannlhiaaDoorW.PrintLast Go.Proofs.YthioojdannlhiaaDoorW.PrintMore
set_option linter.unusedVariables false
set_option linter.unusedSimpArgs false
def mClue (k a b : Int) : Bool := inr 0 200 a && (inr 0 200 b && (((k == 0 || k == 5) && a == 0) || ((k == 1) && (a == 0 && decide (b ≤ 1))) || ((k == 2 || k == 4) && decide (1 ≤ b)) || ((k == 3) && (decide (a ≤ 1) && decide (b ≤ 1)))))
theorem spec_pzClue.ev (k a b : Int) : Ev (fun n => spec_pzClue.f n k a b) (mClue k a b) := by
 refine ⟨4, fun n hn => ?_⟩
 obtain ⟨n, rfl⟩ : ∃ m, n = m + 4 := ⟨n - 4, by omega⟩
 dsimp only
 unfold spec_pzClue.f mClue
 rw [spec_l1In.eq, spec_l1In.eq]
 simp only [Option.bind_some]
 cases inr 0 200 a <;> cases inr 0 200 b <;> simp only [spec_pzClue.j0, spec_pzClue.j1, spec_pzClue.j2, if_true, if_false, Bool.false_eq_true, Bool.not_true, Bool.not_false, Bool.false_and, Bool.true_and]
 by_cases h0 : k = 0
 ·subst h0; simp
 by_cases h1 : k = 1
 ·subst h1; simp; by_cases ha : a = 0 <;> simp [ha] <;> omega
 by_cases h2 : k = 2
 ·subst h2; simp; omega
 by_cases h3 : k = 3
 ·subst h3; simp; by_cases ha : a ≤ 1 <;> simp [ha, show (a < 2) = (a ≤ 1) by apply propext; omega] <;> omega
 by_cases h4 : k = 4
 ·subst h4; simp; omega
 by_cases h5 : k = 5
 ·subst h5; simp
 simp [h0, h1, h2, h3, h4, h5]
theorem impl_isClue.ev (k a b : Int) : Ev (fun n => impl_isClue.f n k a b) (mClue k a b) := by
 refine ⟨4, fun n hn => ?_⟩
 obtain ⟨n, rfl⟩ : ∃ m, n = m + 4 := ⟨n - 4, by omega⟩
 dsimp only
 unfold impl_isClue.f mClue
 rw [impl_within.eq, impl_within.eq]
 simp only [Option.bind_some]
 cases inr 0 200 a <;> cases inr 0 200 b <;> simp only [impl_isClue.j0, impl_isClue.j1, impl_isClue.j2, if_true, if_false, Bool.false_eq_true, Bool.not_true, Bool.not_false, Bool.false_and, Bool.true_and]
 by_cases h0 : k = 0
 ·subst h0; simp
 by_cases h1 : k = 1
 ·subst h1; simp; by_cases ha : a = 0 <;> simp [ha]
 by_cases h2 : k = 2
 ·subst h2; simp
 by_cases h3 : k = 3
 ·subst h3; simp; by_cases ha : a ≤ 1 <;> simp [ha]
 by_cases h4 : k = 4
 ·subst h4; simp
 by_cases h5 : k = 5
 ·subst h5; simp
 simp [h0, h1, h2, h3, h4, h5]
end Go.Proofs.YthioojdannlhiaaDoor.P

namespace Go.Proofs.YthioojdannlhiaaDoor.P
open Go.RowKit Go.Proofs.YthioojdannlhiaaDoorW.PrintWords Go.Proofs.YthioojdannlhiaaDoorW.PrintLast Go.Proofs.YthioojdannlhiaaDoorW.PrintMore
set_option linter.unusedVariables false
set_option linter.unusedSimpArgs false
def mClueS (c : S44) : Bool := mClue c.f0 c.f1 c.f2
def mPuzzle (w : Int) (l : List S44) : Bool := inr 1 12 w && (decide (l.length ≤ 6) && l.all mClueS)
theorem spec_pzGood.ev_l (l : List S44) (hl : l.length ≤ 6) (d : Nat) : ∀ i : Nat, i + d = l.length → Ev (fun k => spec_pzGood.l0 k l (l.length : Int) (i : Int)) ((l.drop i).all mClueS) := by
 induction d with
 | zero =>
  intro i hi
  refine Ev.succ ?_
  simp only [spec_pzGood.l0, show ¬ ((i : Int) < (l.length : Int)) by omega, if_false]
  exact Ev.const (by rw [show i = l.length by omega, List.drop_length]; rfl)
 | succ d ih =>
  intro i hi
  have hlt : i < l.length := by omega
  have e : rd_T44 l (i : Int) = l[i] := by simp [rd_T44, List.getD_eq_getElem?_getD, List.getElem?_eq_getElem hlt]
  refine Ev.succ ?_
  simp only [spec_pzGood.l0, show ((i : Int) < (l.length : Int)) by omega, show (0 : Int) ≤ (i : Int) by omega, if_true, e]
  rw [wid (show -9223372036854775808 ≤ (i : Int) + 1 by omega) (by omega), List.drop_eq_getElem_cons hlt, List.all_cons]
  refine Ev.bind (spec_pzClue.ev _ _ _) ?_
  show Ev _ (mClue l[i].f0 l[i].f1 l[i].f2 && _)
  by_cases h : mClue l[i].f0 l[i].f1 l[i].f2 = true
  ·simp only [if_pos h, h, Bool.true_and]; exact ih (i + 1) (by omega)
  ·simp only [if_neg h]; exact Ev.const (by simp [h])
theorem spec_pzGood.ev (w : Int) (l : List S44) : Ev (fun k => spec_pzGood.f k w l) (mPuzzle w l) := by
 unfold spec_pzGood.f spec_pzWide.f mPuzzle
 rw [spec_l1In.eq]
 simp only [Option.bind_some]
 by_cases h : inr 1 12 w = true
 ·simp only [if_pos h, h, Bool.true_and]
  refine Ev.succ ?_
  simp only [spec_pzGood.j0, decide_eq_true_eq]
  by_cases hl : l.length ≤ 6
  ·simp only [show ¬ ((l.length : Int) > 6) by omega, if_false, hl, decide_true, Bool.true_and]
   exact spec_pzGood.ev_l l hl l.length 0 (by omega)
  ·simp only [show ((l.length : Int) > 6) by omega, if_true, hl, decide_false, Bool.false_and]; exact Ev.now _
 ·simp only [if_neg h]
  refine Ev.succ ?_
  simp only [spec_pzGood.j0, if_true]
  exact Ev.const (by simp [h])
theorem cAny_ev {p : Nat → S44 → Option Bool} {q : S44 → Bool} : ∀ (l : List S44), (∀ x ∈ l, Ev (fun k => p k x) (q x)) → Ev (fun k => cAny (p k) l) (l.any q)
 | [], _ => Ev.now _
 | x :: l, h => by
  simp only [cAny, List.any_cons]
  refine Ev.bind (h x List.mem_cons_self) ?_
  by_cases hq : q x = true
  ·simp only [if_pos hq, hq, Bool.true_or]; exact Ev.now _
  ·simp only [if_neg hq, hq, Bool.false_or]; exact cAny_ev l (fun y hy => h y (List.mem_cons_of_mem _ hy))
theorem impl_IsPuzzle.ev (w : Int) (l : List S44) : Ev (fun k => impl_IsPuzzle.f k w l) (mPuzzle w l) := by
 unfold impl_IsPuzzle.f impl_isSmall.f mPuzzle
 rw [impl_within.eq]
 simp only [Option.bind_some]
 by_cases h : inr 1 12 w = true
 ·simp only [if_pos h, h, Bool.true_and]
  by_cases hl : l.length ≤ 6
  ·simp only [show ((l.length : Int) ≤ 6) by omega, if_true, hl, decide_true, Bool.true_and]
   refine Ev.bind (a := l.any fun x => !mClueS x) ?_ ?_
   ·unfold anyIsPuzzle.f
    refine cAny_ev l (fun x _ => ?_)
    unfold impl_IsPuzzle_1.f
    exact Ev.bind (impl_isClue.ev _ _ _) (Ev.now _)
   ·refine Ev.const ?_
    rw [List.not_any_eq_all_not]; simp
  ·simp only [show ¬ ((l.length : Int) ≤ 6) by omega, if_false, hl, decide_false, Bool.false_and]; exact Ev.now _
 ·simp only [if_neg h]; exact Ev.const (by simp [h])
end Go.Proofs.YthioojdannlhiaaDoor.P

namespace Go.Proofs.YthioojdannlhiaaDoor.P
open Go.RowKit Go.Proofs.YthioojdannlhiaaDoorW.PrintWords Go.Proofs.YthioojdannlhiaaDoorW.PrintLast Go.Proofs.YthioojdannlhiaaDoorW.PrintMore
set_option linter.unusedVariables false
set_option linter.unusedSimpArgs false
def dot : ByteArray := ⟨#[46]⟩
def comma : ByteArray := ⟨#[44]⟩
def wee : ByteArray := ⟨#[119]⟩
theorem dot_size : (⟨#[46]⟩ : ByteArray).size = 1 := rfl
theorem comma_size : (⟨#[44]⟩ : ByteArray).size = 1 := rfl
theorem wee_size : (⟨#[119]⟩ : ByteArray).size = 1 := rfl
/-- A clue's text. -/
def ct (c : S44) : ByteArray := (((txt c.f0.toNat ++ (⟨#[46]⟩ : ByteArray)) ++ txt c.f1.toNat) ++ (⟨#[46]⟩ : ByteArray)) ++ txt c.f2.toNat
theorem mClueS_bd {c : S44} (h : mClueS c = true) : (0 ≤ c.f0 ∧ c.f0 ≤ 5) ∧ (0 ≤ c.f1 ∧ c.f1 ≤ 200) ∧ (0 ≤ c.f2 ∧ c.f2 ≤ 200) := by
 unfold mClueS mClue at h
 simp only [Bool.and_eq_true, Bool.or_eq_true, inr_iff, beq_iff_eq, decide_eq_true_eq] at h
 omega
theorem ct_size {c : S44} (h : mClueS c = true) : (ct c).size ≤ 1000 := by
 have hb := mClueS_bd h
 unfold ct
 simp only [ByteArray.size_append, dot_size]
 have h0 := txt_size c.f0.toNat
 have h1 := txt_size c.f1.toNat
 have h2 := txt_size c.f2.toNat
 omega
theorem rdClue {l : List S44} {i : Nat} (h : i < l.length) : rd_T44 l (i : Int) = l[i] := by
 simp [rd_T44, List.getD_eq_getElem?_getD, List.getElem?_eq_getElem h]
/-- Texts behind a comma each; texts with commas between. -/
def tailB : List ByteArray → ByteArray
 | [] => ByteArray.empty
 | x :: r => ((⟨#[44]⟩ : ByteArray) ++ x) ++ tailB r
def joinB : List ByteArray → ByteArray
 | [] => ByteArray.empty
 | x :: r => x ++ tailB r
theorem tailB_data : ∀ r : List ByteArray, (tailB r).data.toList = Lib.joinTail [44] (r.map (·.data.toList))
 | [] => rfl
 | x :: r => by
  show (((⟨#[44]⟩ : ByteArray) ++ x) ++ tailB r).data.toList = _
  rw [ba_append, ba_append, tailB_data r]
  simp [Lib.joinTail]
theorem joinOf_B (l : List ByteArray) : joinOf l (⟨#[44]⟩ : ByteArray) = joinB l := by
 refine ba_ext ?_
 show (Lib.join (l.map (·.data.toList)) [44]).toArray.toList = _
 cases l with
 | nil => rfl
 | cons x r =>
  rw [List.map_cons, Lib.join_cons]
  show _ = (x ++ tailB r).data.toList
  rw [ba_append, tailB_data]
theorem tailB_size : ∀ (r : List ByteArray) (h : ∀ x ∈ r, x.size ≤ 1000), (tailB r).size ≤ 1001 * r.length
 | [], _ => by simp [tailB]
 | x :: r, h => by
  have h1 := h x (by simp)
  have h2 := tailB_size r (fun y hy => h y (by simp [hy]))
  show (((⟨#[44]⟩ : ByteArray) ++ x) ++ tailB r).size ≤ _
  simp only [ByteArray.size_append, comma_size, List.length_cons]
  omega
theorem empty_append (a : ByteArray) : a ++ ByteArray.empty = a := ba_ext (by rw [ba_append]; exact List.append_nil _)
theorem spec_pzText.ev_l (l : List S44) (hl : l.length ≤ 6) (hc : l.all mClueS = true) (d : Nat) : ∀ (i : Nat) (x : ByteArray), 1 ≤ i → i + d = l.length → x.size ≤ 2000 * i → Ev (fun k => spec_pzText.l0 k x l (l.length : Int) (i : Int)) (x ++ tailB ((l.drop i).map ct)) := by
 induction d with
 | zero =>
  intro i x hi he hx
  refine Ev.succ ?_
  simp only [spec_pzText.l0, show ¬ ((i : Int) < (l.length : Int)) by omega, if_false]
  rw [show l.drop i = [] from List.drop_eq_nil_of_le (by omega)]
  show Ev _ (x ++ ByteArray.empty)
  rw [empty_append]
  exact Ev.now _
 | succ d ih =>
  intro i x hi he hx
  have hlt : i < l.length := by omega
  have hcl : mClueS l[i] = true := List.all_eq_true.1 hc _ (List.getElem_mem hlt)
  have hb := mClueS_bd hcl
  have hs := ct_size hcl
  have s0 := txt_size l[i].f0.toNat
  have s1 := txt_size l[i].f1.toNat
  have s2 := txt_size l[i].f2.toNat
  refine Ev.succ ?_
  simp only [spec_pzText.l0, show ((i : Int) < (l.length : Int)) by omega, show (0 : Int) ≤ (i : Int) by omega, show (i : Int) > 0 by omega, if_true, show x.size + 1 ≤ 9223372036854775807 by omega, rdClue hlt]
  refine Ev.bind (spec_l1Num.evi hb.1.1 (by omega)) ?_
  simp only [show (txt l[i].f0.toNat).size + 1 ≤ 9223372036854775807 by omega, if_true]
  refine Ev.bind (spec_l1Num.evi hb.2.1.1 (by omega)) ?_
  simp only [ByteArray.size_append, dot_size, comma_size, show (txt l[i].f0.toNat).size + 1 + (txt l[i].f1.toNat).size ≤ 9223372036854775807 by omega, show (txt l[i].f0.toNat).size + 1 + (txt l[i].f1.toNat).size + 1 ≤ 9223372036854775807 by omega, if_true]
  refine Ev.bind (spec_l1Num.evi hb.2.2.1 (by omega)) ?_
  simp only [show (txt l[i].f0.toNat).size + 1 + (txt l[i].f1.toNat).size + 1 + (txt l[i].f2.toNat).size ≤ 9223372036854775807 by omega, show x.size + 1 + ((txt l[i].f0.toNat).size + 1 + (txt l[i].f1.toNat).size + 1 + (txt l[i].f2.toNat).size) ≤ 9223372036854775807 by omega, if_true]
  rw [wid (show -9223372036854775808 ≤ (i : Int) + 1 by omega) (by omega)]
  have e := ih (i + 1) ((x ++ (⟨#[44]⟩ : ByteArray)) ++ ct l[i]) (by omega) (by omega) (by simp only [ByteArray.size_append, comma_size]; omega)
  refine ev_eq e ?_
  rw [List.drop_eq_getElem_cons hlt, List.map_cons]
  show _ = x ++ (((⟨#[44]⟩ : ByteArray) ++ ct l[i]) ++ tailB _)
  simp only [ba_assoc]
theorem spec_pzText.ev {w : Int} {l : List S44} (hw : 1 ≤ w ∧ w ≤ 12) (hl : l.length ≤ 6) (hc : l.all mClueS = true) : Ev (fun k => spec_pzText.f k w l) ((txt w.toNat ++ (⟨#[119]⟩ : ByteArray)) ++ joinB (l.map ct)) := by
 unfold spec_pzText.f
 refine Ev.bind (spec_l1Num.evi (by omega) (by omega)) ?_
 have sw := txt_size w.toNat
 simp only [show (txt w.toNat).size + 1 ≤ 9223372036854775807 by omega, if_true]
 cases l with
 | nil =>
  refine Ev.succ ?_
  simp only [spec_pzText.l0, List.length_nil, show ¬ ((0 : Int) < ((0 : Nat) : Int)) by omega, if_false]
  show Ev _ ((txt w.toNat ++ (⟨#[119]⟩ : ByteArray)) ++ ByteArray.empty)
  rw [empty_append]
  exact Ev.now _
 | cons c r =>
  have hcl : mClueS c = true := List.all_eq_true.1 hc _ (by simp)
  have hb := mClueS_bd hcl
  have hs := ct_size hcl
  have s0 := txt_size c.f0.toNat
  have s1 := txt_size c.f1.toNat
  have s2 := txt_size c.f2.toNat
  have hrd : rd_T44 (c :: r) 0 = c := rfl
  refine Ev.succ ?_
  simp only [spec_pzText.l0, hrd, show ((0 : Int) < ((c :: r).length : Int)) by simp only [List.length_cons]; omega, show ¬ ((0 : Int) > 0) by omega, show (0 : Int) ≤ 0 by omega, if_true, if_false]
  refine Ev.bind (spec_l1Num.evi hb.1.1 (by omega)) ?_
  simp only [show (txt c.f0.toNat).size + 1 ≤ 9223372036854775807 by omega, if_true]
  refine Ev.bind (spec_l1Num.evi hb.2.1.1 (by omega)) ?_
  simp only [ByteArray.size_append, dot_size, wee_size, show (txt c.f0.toNat).size + 1 + (txt c.f1.toNat).size ≤ 9223372036854775807 by omega, show (txt c.f0.toNat).size + 1 + (txt c.f1.toNat).size + 1 ≤ 9223372036854775807 by omega, if_true]
  refine Ev.bind (spec_l1Num.evi hb.2.2.1 (by omega)) ?_
  simp only [show (txt c.f0.toNat).size + 1 + (txt c.f1.toNat).size + 1 + (txt c.f2.toNat).size ≤ 9223372036854775807 by omega, show (txt w.toNat).size + 1 + ((txt c.f0.toNat).size + 1 + (txt c.f1.toNat).size + 1 + (txt c.f2.toNat).size) ≤ 9223372036854775807 by omega, if_true]
  rw [wid (show -9223372036854775808 ≤ (0 : Int) + 1 by omega) (by omega)]
  have e := spec_pzText.ev_l (c :: r) hl hc r.length 1 ((txt w.toNat ++ (⟨#[119]⟩ : ByteArray)) ++ ct c) (by omega) (by simp; omega) (by simp only [ByteArray.size_append, wee_size]; omega)
  refine ev_eq e ?_
  show _ ++ tailB (r.map ct) = _ ++ (ct c ++ tailB (r.map ct))
  simp only [ba_assoc]
theorem mPz_parts {w : Int} {l : List S44} (h : mPuzzle w l = true) : inr 1 12 w = true ∧ l.length ≤ 6 ∧ l.all mClueS = true := by
 unfold mPuzzle at h
 simp only [Bool.and_eq_true, decide_eq_true_eq] at h
 exact ⟨h.1, h.2.1, h.2.2⟩
def mPzText (w : Int) (l : List S44) : ByteArray × Bool := if mPuzzle w l = true then ((txt w.toNat ++ (⟨#[119]⟩ : ByteArray)) ++ joinB (l.map ct), true) else (⟨#[]⟩, false)
theorem spec_PuzzleText.ev (w : Int) (l : List S44) : Ev (fun k => spec_PuzzleText.f k w l) (mPzText w l) := by
 unfold spec_PuzzleText.f mPzText
 refine Ev.bind (spec_pzGood.ev w l) ?_
 cases h : mPuzzle w l with
 | false => simp only [Bool.false_eq_true, if_false]; exact Ev.now _
 | true =>
  obtain ⟨h1, h2, h3⟩ := mPz_parts h
  simp only [if_true]
  exact Ev.bind (spec_pzText.ev (inr_iff.1 h1) h2 h3) (Ev.now _)
theorem impl_PuzzleText.ev_l (w : Int) (hw : 1 ≤ w ∧ w ≤ 12) (l : List S44) (hl : l.length ≤ 6) (hc : l.all mClueS = true) (d : Nat) : ∀ (i : Nat), i + d = l.length → Ev (fun k => impl_PuzzleText.l0 k ((l.take i).map ct) l (l.length : Int) (i : Int) w l) ((txt w.toNat ++ (⟨#[119]⟩ : ByteArray)) ++ joinB (l.map ct), true) := by
 induction d with
 | zero =>
  intro i he
  have sw := txt_size w.toNat
  have hall : ∀ x ∈ l.map ct, x.size ≤ 1000 := by
   intro x hx
   obtain ⟨c, hm, rfl⟩ := List.mem_map.1 hx
   exact ct_size (List.all_eq_true.1 hc _ hm)
  have hj : (joinB (l.map ct)).size ≤ 10000 := by
   cases hq : l.map ct with
   | nil => simp [joinB]
   | cons x r =>
    rw [hq] at hall
    have h1 := hall x (by simp)
    have h2 := tailB_size r (fun y hy => hall y (by simp [hy]))
    have h3 : r.length + 1 = l.length := by rw [← List.length_map (f := ct), hq]; simp
    show (x ++ tailB r).size ≤ _
    simp only [ByteArray.size_append]
    omega
  refine Ev.succ ?_
  simp only [impl_PuzzleText.l0, show ¬ ((i : Int) < (l.length : Int)) by omega, if_false]
  rw [show l.take i = l from List.take_of_length_le (by omega)]
  refine Ev.bindc (impl_text.eq (by omega) (by omega)) ?_
  simp only [show (txt w.toNat).size + 1 ≤ 9223372036854775807 by omega, if_true]
  have hJ : (joinOf (l.map ct) (⟨#[44]⟩ : ByteArray)).size = (Lib.join ((l.map ct).map (·.data.toList)) (⟨#[44]⟩ : ByteArray).data.toList).length := by
   simp [joinOf, ByteArray.size]
  rw [joinOf_B] at hJ
  refine Ev.bindc (show strings_Join.f (l.map ct) (⟨#[44]⟩ : ByteArray) = some (joinB (l.map ct)) from ?_) ?_
  ·unfold strings_Join.f
   rw [if_pos ⟨by rw [List.length_map]; omega, by rw [← hJ]; omega⟩, joinOf_B]
  ·simp only [ByteArray.size_append, wee_size, show (txt w.toNat).size + 1 + (joinB (l.map ct)).size ≤ 9223372036854775807 by omega, if_true]
   exact Ev.now _
 | succ d ih =>
  intro i he
  have hlt : i < l.length := by omega
  have hcl : mClueS l[i] = true := List.all_eq_true.1 hc _ (List.getElem_mem hlt)
  have hb := mClueS_bd hcl
  have s0 := txt_size l[i].f0.toNat
  have s1 := txt_size l[i].f1.toNat
  have s2 := txt_size l[i].f2.toNat
  refine Ev.succ ?_
  simp only [impl_PuzzleText.l0, show ((i : Int) < (l.length : Int)) by omega, show (0 : Int) ≤ (i : Int) by omega, if_true, rdClue hlt]
  refine Ev.bindc (impl_text.eq hb.1.1 (by omega)) ?_
  simp only [show (txt l[i].f0.toNat).size + 1 ≤ 9223372036854775807 by omega, if_true]
  refine Ev.bindc (impl_text.eq hb.2.1.1 (by omega)) ?_
  simp only [ByteArray.size_append, dot_size, show (txt l[i].f0.toNat).size + 1 + (txt l[i].f1.toNat).size ≤ 9223372036854775807 by omega, show (txt l[i].f0.toNat).size + 1 + (txt l[i].f1.toNat).size + 1 ≤ 9223372036854775807 by omega, if_true]
  refine Ev.bindc (impl_text.eq hb.2.2.1 (by omega)) ?_
  have hlen : ((l.take i).map ct).length < 8796093022208 := by rw [List.length_map, List.length_take]; omega
  simp only [show (txt l[i].f0.toNat).size + 1 + (txt l[i].f1.toNat).size + 1 + (txt l[i].f2.toNat).size ≤ 9223372036854775807 by omega, hlen, if_true]
  rw [wid (show -9223372036854775808 ≤ (i : Int) + 1 by omega) (by omega)]
  have e := ih (i + 1) (by omega)
  rw [List.take_succ_eq_append_getElem hlt, List.map_append] at e
  exact e
theorem impl_PuzzleText.ev (w : Int) (l : List S44) : Ev (fun k => impl_PuzzleText.f k w l) (mPzText w l) := by
 unfold impl_PuzzleText.f mPzText
 refine Ev.bind (impl_IsPuzzle.ev w l) ?_
 cases h : mPuzzle w l with
 | false => simp only [Bool.false_eq_true, if_false]; exact Ev.now _
 | true =>
  obtain ⟨h1, h2, h3⟩ := mPz_parts h
  simp only [if_true]
  exact impl_PuzzleText.ev_l w (inr_iff.1 h1) l h2 h3 l.length 0 (by omega)
end Go.Proofs.YthioojdannlhiaaDoor.P

namespace Go.Proofs.YthioojdannlhiaaDoor.P
open Go.RowKit Go.Proofs.YthioojdannlhiaaDoorW.PrintWords Go.Proofs.YthioojdannlhiaaDoorW.PrintLast Go.Proofs.YthioojdannlhiaaDoorW.PrintMore
set_option linter.unusedVariables false
set_option linter.unusedSimpArgs false
theorem splitOf_spl (a : ByteArray) (c : UInt8) (sep : ByteArray) (hs : sep.data.toList = [c]) : splitOf a sep = (spl c a.data.toList).map mkS := by
 have h := Lib.splitB_data sep 0 (Lib.countB a sep) a
 have e : Lib.countB a sep = Lib.count a.data.toList [c] := by unfold Lib.countB; rw [hs]
 rw [hs, e, splitK_spl c _ _ (Nat.le_refl _)] at h
 rw [← h, List.map_map]
 unfold splitOf
 rw [e]
 symm
 refine (List.map_congr_left (fun x _ => ?_)).trans (List.map_id _)
 exact mkS_of x
theorem split_eq {a : ByteArray} (h : a.size ≤ 1048576) (c : UInt8) (sep : ByteArray) (hs : sep.data.toList = [c]) : strings_Split.f a sep = some ((spl c a.data.toList).map mkS) := by
 have h1 : sep.size = 1 := by
  have : sep.data.toList.length = 1 := by rw [hs]; rfl
  simpa using this
 unfold strings_Split.f
 rw [if_pos ⟨by omega, by omega, Lib.splitB_all sep (by omega) 0 _ a rfl⟩, splitOf_spl a c sep hs]
theorem cut_eq2 {a b : ByteArray} (h : a.size ≤ 1048576) : strings_Cut.f a b = some (cutOf a b) := by
 unfold strings_Cut.f
 rw [if_pos (by omega)]
theorem num_eq2 {a : ByteArray} (h : a.size ≤ 1048576) : impl_number.f a = some (numOf a) := by
 unfold impl_number.f
 rw [if_pos (by omega)]
theorem mkS_size (l : List UInt8) : (mkS l).size = l.length := by simp [mkS, ByteArray.size]
theorem cutOf_brk2 (s : ByteArray) (c : UInt8) (sep : ByteArray) (hs : sep.data.toList = [c]) : cutOf s sep = match brk c s.data.toList with | some p => (mkS p.1, mkS p.2, true) | none => (s, mkS [], false) := by
 unfold cutOf
 rw [hs, cut_brk]
 cases brk c s.data.toList with
 | some p => rfl
 | none => simp only; exact congrArg (fun z => (z, mkS [], false)) (mkS_of s)
theorem rdOf_mk2 {l : List (List UInt8)} {i : Nat} (h : i < l.length) : rdOf ByteArray.empty (l.map mkS) (i : Int) = mkS l[i] := by
 simp [rdOf, List.getD_eq_getElem?_getD, List.getElem?_eq_getElem h]
theorem part_len {c : UInt8} : ∀ {l : List UInt8}, (∀ x ∈ spl c l, x.length ≤ l.length) ∧ (spl c l).length ≤ l.length + 1
 | [] => ⟨fun x hx => by simp [spl] at hx; simp [hx], by simp [spl]⟩
 | b :: t => by
  obtain ⟨ih, ih2⟩ := part_len (c := c) (l := t)
  unfold spl
  by_cases e : b = c
  ·rw [if_pos e]
   refine ⟨fun x hx => ?_, by simp only [List.length_cons]; omega⟩
   rcases List.mem_cons.1 hx with rfl | h
   ·simp
   ·have := ih x h; simp only [List.length_cons]; omega
  ·rw [if_neg e]
   cases hs : spl c t with
   | nil => exact absurd hs (spl_ne c t)
   | cons y r =>
    rw [hs] at ih ih2
    simp only [glue, List.length_cons] at ih2 ⊢
    refine ⟨fun x hx => ?_, by omega⟩
    rcases List.mem_cons.1 hx with rfl | h
    ·have := ih y (by simp); simp only [List.length_append, List.length_cons, List.length_nil]; omega
    ·have := ih x (by simp [h]); omega
theorem no_sep2 {n : Nat} {c : UInt8} (h : c.toNat < 48 ∨ 57 < c.toNat) : c ∉ Lib.decDigits n := fun q => by have := dec_digits n c q; omega
end Go.Proofs.YthioojdannlhiaaDoor.P

namespace Go.Proofs.YthioojdannlhiaaDoor.P
open Go.RowKit Go.Proofs.YthioojdannlhiaaDoorW.PrintWords Go.Proofs.YthioojdannlhiaaDoorW.PrintLast Go.Proofs.YthioojdannlhiaaDoorW.PrintMore
set_option linter.unusedVariables false
set_option linter.unusedSimpArgs false
/-- A clue's text, as a row of bytes; a puzzle's. -/
def ctD (c : S44) : List UInt8 := Lib.decDigits c.f0.toNat ++ 46 :: (Lib.decDigits c.f1.toNat ++ 46 :: Lib.decDigits c.f2.toNat)
theorem ct_data (c : S44) : (ct c).data.toList = ctD c := by
 unfold ct ctD
 simp only [ba_append, List.append_assoc]
 rfl
def pzT (w : Int) (l : List S44) : ByteArray := (txt w.toNat ++ (⟨#[119]⟩ : ByteArray)) ++ joinB (l.map ct)
theorem tail_joinL : ∀ (x : List UInt8) (r : List ByteArray), x ++ (tailB r).data.toList = joinL 44 (x :: r.map (·.data.toList))
 | x, [] => by show x ++ [] = x; simp
 | x, y :: r => by
  show x ++ (((⟨#[44]⟩ : ByteArray) ++ y) ++ tailB r).data.toList = x ++ 44 :: joinL 44 (y.data.toList :: r.map (·.data.toList))
  rw [ba_append, ba_append, List.append_assoc, tail_joinL y.data.toList r]
  rfl
theorem joinB_data (l : List S44) : (joinB (l.map ct)).data.toList = joinL 44 (l.map ctD) := by
 cases l with
 | nil => rfl
 | cons c r =>
  show (ct c ++ tailB (r.map ct)).data.toList = joinL 44 (ctD c :: r.map ctD)
  rw [ba_append, tail_joinL, ct_data, List.map_map]
  congr 2
  exact List.map_congr_left (fun x _ => ct_data x)
theorem pzT_data (w : Int) (l : List S44) : (pzT w l).data.toList = Lib.decDigits w.toNat ++ 119 :: joinL 44 (l.map ctD) := by
 unfold pzT
 rw [ba_append, ba_append, joinB_data, List.append_assoc]
 rfl
theorem ctD_no {c : S44} {b : UInt8} (h : b.toNat < 46 ∨ 57 < b.toNat) : b ∉ ctD c := by
 unfold ctD
 have h46 : b ≠ 46 := by intro q; subst q; exact absurd h (by decide)
 simp only [List.mem_append, List.mem_cons, not_or]
 exact ⟨no_sep2 (by omega), h46, no_sep2 (by omega), h46, no_sep2 (by omega)⟩
theorem joinL_no {c b : UInt8} (hb : b ≠ c) : ∀ (W : List (List UInt8)), (∀ x ∈ W, b ∉ x) → b ∉ joinL c W
 | [], _ => by simp [joinL]
 | [x], h => h x (by simp)
 | x :: y :: r, h => by
  rw [joinL_cons (by simp)]
  simp only [List.mem_append, List.mem_cons, not_or]
  exact ⟨h x (by simp), hb, joinL_no hb (y :: r) (fun z hz => h z (by simp at hz ⊢; exact .inr hz))⟩
theorem ctD_len {c : S44} (h : mClueS c = true) : (ctD c).length ≤ 9 ∧ ctD c ≠ [] := by
 have hb := mClueS_bd h
 have h0 := dec_len 0 c.f0.toNat (by omega)
 have h1 := dec_len 2 c.f1.toNat (by omega)
 have h2 := dec_len 2 c.f2.toNat (by omega)
 unfold ctD
 refine ⟨by simp only [List.length_append, List.length_cons]; omega, by simp⟩
theorem joinL_len {c : UInt8} {m : Nat} : ∀ (W : List (List UInt8)), (∀ x ∈ W, x.length ≤ m) → (joinL c W).length ≤ (m + 1) * W.length
 | [], _ => by simp [joinL]
 | [x], h => by have := h x (by simp); simp only [joinL, List.length_cons, List.length_nil]; omega
 | x :: y :: r, h => by
  rw [joinL_cons (by simp)]
  have h1 := h x (by simp)
  have h2 := joinL_len (c := c) (y :: r) (fun z hz => h z (by simp at hz ⊢; exact .inr hz))
  simp only [List.length_append, List.length_cons] at h2 ⊢
  rw [Nat.mul_succ] at h2 ⊢
  rw [Nat.mul_succ]
  omega
theorem pzT_len {w : Int} {l : List S44} (h : mPuzzle w l = true) : (pzT w l).data.toList.length ≤ 100 := by
 obtain ⟨h1, h2, h3⟩ := mPz_parts h
 have hw := inr_iff.1 h1
 have h0 := dec_len 1 w.toNat (by omega)
 have hj := joinL_len (c := 44) (m := 9) (l.map ctD) (fun x hx => by obtain ⟨c, hc, rfl⟩ := List.mem_map.1 hx; exact (ctD_len (List.all_eq_true.1 h3 _ hc)).1)
 rw [List.length_map] at hj
 rw [pzT_data]
 simp only [List.length_append, List.length_cons]
 omega
theorem spl_ctD (c : S44) : spl 46 (ctD c) = [Lib.decDigits c.f0.toNat, Lib.decDigits c.f1.toNat, Lib.decDigits c.f2.toNat] := by
 unfold ctD
 rw [spl_mk (no_sep2 (by decide)), spl_mk (no_sep2 (by decide)), spl_no (no_sep2 (by decide))]
theorem spl_rest {l : List S44} (h : l ≠ []) : spl 44 (joinL 44 (l.map ctD)) = l.map ctD :=
 spl_joinL _ (by simpa using h) (fun x hx => by obtain ⟨c, _, rfl⟩ := List.mem_map.1 hx; exact ctD_no (by decide))
theorem rest_ne {l : List S44} (h : l ≠ []) : joinL 44 (l.map ctD) ≠ [] := by
 intro q
 have := spl_rest h
 rw [q] at this
 cases l with
 | nil => exact h rfl
 | cons c r =>
  simp only [spl, List.map_cons, List.cons.injEq] at this
  have : ctD c = [] := this.1.symm
  unfold ctD at this
  simp at this
/-- The puzzles' texts. -/
def IsT (s : List UInt8) : Prop := ∃ w l, mPuzzle w l = true ∧ s = (pzT w l).data.toList
end Go.Proofs.YthioojdannlhiaaDoor.P

namespace Go.Proofs.YthioojdannlhiaaDoor.P
open Go.RowKit Go.Proofs.YthioojdannlhiaaDoorW.PrintWords Go.Proofs.YthioojdannlhiaaDoorW.PrintLast Go.Proofs.YthioojdannlhiaaDoorW.PrintMore
set_option linter.unusedVariables false
set_option linter.unusedSimpArgs false
/-- What the program reads out of a clue's text. -/
def pc (l : List UInt8) : Int × Int × Int × Bool := match spl 46 l with
 | [x, y, z] => if ((numOf (mkS x)).2 && ((numOf (mkS y)).2 && (numOf (mkS z)).2)) = true then ((numOf (mkS x)).1, (numOf (mkS y)).1, (numOf (mkS z)).1, true) else (0, 0, 0, false)
 | _ => (0, 0, 0, false)
theorem impl_parseClue.ev {l : List UInt8} (hl : l.length ≤ 1048576) : Ev (fun k => impl_parseClue.f k (mkS l)) (pc l) := by
 have hp := part_len (c := 46) (l := l)
 unfold impl_parseClue.f pc
 refine Ev.bindc (split_eq (by rw [mkS_size]; exact hl) 46 (⟨#[46]⟩ : ByteArray) rfl) ?_
 rw [mkS_data]
 match hq : spl 46 l with
 | [] => exact absurd hq (spl_ne _ _)
 | [x] =>
  rw [hq] at hp
  have hx := hp.1 x (by simp)
  refine Ev.succ ?_
  have r0 : rdOf ByteArray.empty ([x].map mkS) 0 = mkS x := rfl
  have hln : ((([x].map mkS).length : Nat) : Int) = 1 := rfl
  simp only [impl_parseClue.l0, hln, r0, show (0 : Int) < 1 by omega, show (0 : Int) ≤ 0 by omega, if_true, num_eq2 (show (mkS x).size ≤ 1048576 by rw [mkS_size]; omega), Option.bind_some, show ¬ ((1 : Int) = 3) by omega, if_false]
  cases (numOf (mkS x)).2 with
  | true => simp only [if_true]; exact Ev.now _
  | false => simp only [Bool.false_eq_true, if_false]; exact Ev.now _
 | [x, y] =>
  rw [hq] at hp
  have hx := hp.1 x (by simp)
  refine Ev.succ ?_
  have r0 : rdOf ByteArray.empty ([x, y].map mkS) 0 = mkS x := rfl
  have hln : ((([x, y].map mkS).length : Nat) : Int) = 2 := rfl
  simp only [impl_parseClue.l0, hln, r0, show (0 : Int) < 2 by omega, show (0 : Int) ≤ 0 by omega, if_true, num_eq2 (show (mkS x).size ≤ 1048576 by rw [mkS_size]; omega), Option.bind_some, show ¬ ((2 : Int) = 3) by omega, if_false]
  cases (numOf (mkS x)).2 with
  | true => simp only [if_true]; exact Ev.now _
  | false => simp only [Bool.false_eq_true, if_false]; exact Ev.now _
 | x :: y :: z :: u :: r =>
  rw [hq] at hp
  have hx := hp.1 x (by simp)
  refine Ev.succ ?_
  have r0 : rdOf ByteArray.empty ((x :: y :: z :: u :: r).map mkS) 0 = mkS x := rfl
  have hln : (((x :: y :: z :: u :: r).map mkS).length : Int) = (r.length : Int) + 4 := by simp only [List.length_map, List.length_cons]; omega
  simp only [impl_parseClue.l0, hln, r0, show (0 : Int) < (r.length : Int) + 4 by omega, show (0 : Int) ≤ 0 by omega, if_true, num_eq2 (show (mkS x).size ≤ 1048576 by rw [mkS_size]; omega), Option.bind_some, show ¬ ((r.length : Int) + 4 = 3) by omega, if_false]
  cases (numOf (mkS x)).2 with
  | true => simp only [if_true]; exact Ev.now _
  | false => simp only [Bool.false_eq_true, if_false]; exact Ev.now _
 | [x, y, z] =>
  rw [hq] at hp
  have hx := hp.1 x (by simp)
  have hy := hp.1 y (by simp)
  have hz := hp.1 z (by simp)
  dsimp only
  have r0 : rdOf ByteArray.empty ([x, y, z].map mkS) 0 = mkS x := rfl
  have r1 : rdOf ByteArray.empty ([x, y, z].map mkS) 1 = mkS y := rfl
  have r2 : rdOf ByteArray.empty ([x, y, z].map mkS) 2 = mkS z := rfl
  have hln : ((([x, y, z].map mkS).length : Nat) : Int) = 3 := rfl
  have n0 := num_eq2 (show (mkS x).size ≤ 1048576 by rw [mkS_size]; omega)
  have n1 := num_eq2 (show (mkS y).size ≤ 1048576 by rw [mkS_size]; omega)
  have n2 := num_eq2 (show (mkS z).size ≤ 1048576 by rw [mkS_size]; omega)
  have w1 : wrap64 ((0 : Int) + 1) = 1 := wid (by omega) (by omega)
  have w2 : wrap64 ((1 : Int) + 1) = 2 := wid (by omega) (by omega)
  have w3 : wrap64 ((2 : Int) + 1) = 3 := wid (by omega) (by omega)
  generalize numOf (mkS x) = a at *
  generalize numOf (mkS y) = b at *
  generalize numOf (mkS z) = c at *
  obtain ⟨a, oa⟩ := a
  obtain ⟨b, ob⟩ := b
  obtain ⟨c, oc⟩ := c
  refine Ev.succ ?_
  simp only [impl_parseClue.l0, hln, r0, n0, Option.bind_some, show (0 : Int) < 3 by omega, show (0 : Int) ≤ 0 by omega, if_true, List.length_nil, show (0 : Nat) < 17592186044416 by omega, w1]
  cases oa with
  | false => simp only [Bool.false_eq_true, if_false, Bool.false_and]; exact Ev.now _
  | true =>
   simp only [if_true, Bool.true_and, List.nil_append]
   refine Ev.succ ?_
   simp only [impl_parseClue.l0, hln, r1, n1, Option.bind_some, show (1 : Int) < 3 by omega, show (0 : Int) ≤ 1 by omega, if_true, List.length_cons, List.length_nil, show (0 + 1 : Nat) < 17592186044416 by omega, w2]
   cases ob with
   | false => simp only [Bool.false_eq_true, if_false, Bool.false_and]; exact Ev.now _
   | true =>
    simp only [if_true, Bool.true_and, List.cons_append, List.nil_append]
    refine Ev.succ ?_
    simp only [impl_parseClue.l0, hln, r2, n2, Option.bind_some, show (2 : Int) < 3 by omega, show (0 : Int) ≤ 2 by omega, if_true, List.length_cons, List.length_nil, show (0 + 1 + 1 : Nat) < 17592186044416 by omega, w3]
    cases oc with
    | false => simp only [Bool.false_eq_true, if_false]; exact Ev.now _
    | true =>
     simp only [if_true, List.cons_append, List.nil_append]
     refine Ev.succ ?_
     have e0 : rd [a, b, c] 0 = a := rfl
     have e1 : rd [a, b, c] 1 = b := rfl
     have e2 : rd [a, b, c] 2 = c := rfl
     have e3 : ((([a, b, c] : List Int).length : Nat) : Int) = 3 := rfl
     simp only [impl_parseClue.l0, hln, show ¬ ((3 : Int) < 3) by omega, if_false, e0, e1, e2, e3, show (0 : Int) < 3 by omega, show (1 : Int) < 3 by omega, show (2 : Int) < 3 by omega, if_true]
     exact Ev.now _
/-- All the clues' texts, read. -/
def pl : List (List UInt8) → Option (List S44)
 | [] => some []
 | x :: r => if (pc x).2.2.2 = true then (pl r).map fun cs => ⟨(pc x).1, (pc x).2.1, (pc x).2.2.1⟩ :: cs else none
theorem pc_back {l : List UInt8} (h : (pc l).2.2.2 = true) (hc : mClueS ⟨(pc l).1, (pc l).2.1, (pc l).2.2.1⟩ = true) : l = ctD ⟨(pc l).1, (pc l).2.1, (pc l).2.2.1⟩ := by
 have hb := mClueS_bd hc
 have hj := joinL_spl 46 _ l (Nat.le_refl _)
 revert h hb
 unfold pc
 match hq : spl 46 l with
 | [] => intro h; simp at h
 | [x] => intro h; simp at h
 | [x, y] => intro h; simp at h
 | x :: y :: z :: u :: r => intro h; simp at h
 | [x, y, z] =>
  rw [hq] at hj
  simp only
  split
  ·rename_i hn
   simp only [Bool.and_eq_true] at hn
   intro _ hb
   have p0 := numOf_pos hn.1 (by exact hb.1.1)
   have p1 := numOf_pos hn.2.1 (by exact hb.2.1.1)
   have p2 := numOf_pos hn.2.2 (by exact hb.2.2.1)
   rw [mkS_data] at p0 p1 p2
   show l = Lib.decDigits (numOf (mkS x)).1.toNat ++ 46 :: (Lib.decDigits (numOf (mkS y)).1.toNat ++ 46 :: Lib.decDigits (numOf (mkS z)).1.toNat)
   rw [← p0, ← p1, ← p2]
   exact hj.symm
  ·intro h; simp at h
theorem pc_mk {c : S44} (h : mClueS c = true) : pc (ctD c) = (c.f0, c.f1, c.f2, true) := by
 have hb := mClueS_bd h
 have e0 := numOf_txt (n := c.f0.toNat) (by omega)
 have e1 := numOf_txt (n := c.f1.toNat) (by omega)
 have e2 := numOf_txt (n := c.f2.toNat) (by omega)
 have m0 : mkS (Lib.decDigits c.f0.toNat) = txt c.f0.toNat := rfl
 have m1 : mkS (Lib.decDigits c.f1.toNat) = txt c.f1.toNat := rfl
 have m2 : mkS (Lib.decDigits c.f2.toNat) = txt c.f2.toNat := rfl
 unfold pc
 rw [spl_ctD]
 simp only [m0, m1, m2, e0, e1, e2, Bool.and_self, if_true, Prod.mk.injEq, and_true]
 omega
theorem pl_mk : ∀ (cs : List S44), cs.all mClueS = true → pl (cs.map ctD) = some cs
 | [], _ => rfl
 | c :: cs, h => by
  simp only [List.all_cons, Bool.and_eq_true] at h
  simp only [List.map_cons, pl, pc_mk h.1, if_true, pl_mk cs h.2, Option.map_some]
theorem pl_back : ∀ (W : List (List UInt8)) (cs : List S44), pl W = some cs → cs.all mClueS = true → W = cs.map ctD
 | [], cs, h, _ => by
  simp only [pl, Option.some.injEq] at h
  subst h; rfl
 | x :: r, cs, h, hc => by
  unfold pl at h
  split at h
  ·rename_i hx
   cases hr : pl r with
   | none => rw [hr] at h; simp at h
   | some t =>
    rw [hr] at h
    simp only [Option.map_some, Option.some.injEq] at h
    subst h
    simp only [List.all_cons, Bool.and_eq_true] at hc
    rw [List.map_cons, ← pc_back hx hc.1, ← pl_back r t hr hc.2]
  ·cases h
theorem impl_loop (W : List (List UInt8)) (w : Int) (hW : ∀ x ∈ W, x.length ≤ 1048576) (hn : W.length ≤ 1048577) (d : Nat) : ∀ (i : Nat) (out : List S44), i + d = W.length → out.length ≤ i → Ev (fun k => impl_ParsePuzzle.l0 k (W.map mkS) (W.length : Int) (i : Int) w out) (match pl (W.drop i) with | some cs => if mPuzzle w (out ++ cs) = true then (w, out ++ cs, true) else (0, [], false) | none => (0, [], false)) := by
 induction d with
 | zero =>
  intro i out hi ho
  refine Ev.succ ?_
  simp only [impl_ParsePuzzle.l0, show ¬ ((i : Int) < (W.length : Int)) by omega, if_false]
  rw [List.drop_eq_nil_of_le (by omega)]
  simp only [pl, List.append_nil]
  refine Ev.bind (impl_IsPuzzle.ev w out) ?_
  cases mPuzzle w out with
  | true => simp only [if_true]; exact Ev.now _
  | false => simp only [Bool.false_eq_true, if_false]; exact Ev.now _
 | succ d ih =>
  intro i out hi ho
  have hlt : i < W.length := by omega
  have hx := hW _ (List.getElem_mem hlt)
  have hrd := rdOf_mk2 (l := W) hlt
  refine Ev.succ ?_
  simp only [impl_ParsePuzzle.l0, List.length_map, show ((i : Int) < (W.length : Int)) by omega, show (0 : Int) ≤ (i : Int) by omega, if_true, hrd]
  refine Ev.bind (impl_parseClue.ev hx) ?_
  rw [List.drop_eq_getElem_cons hlt]
  simp only [pl]
  by_cases hp : (pc W[i]).2.2.2 = true
  ·simp only [hp, if_true, show out.length < 5864062014805 by omega]
   rw [wid (show -9223372036854775808 ≤ (i : Int) + 1 by omega) (by omega)]
   refine ev_eq (ih (i + 1) (out ++ [(⟨(pc W[i]).1, (pc W[i]).2.1, (pc W[i]).2.2.1⟩ : S44)]) (by omega) (by rw [List.length_append]; simp only [List.length_cons, List.length_nil]; omega)) ?_
   cases pl (W.drop (i + 1)) with
   | none => rfl
   | some cs => simp only [Option.map_some, List.append_assoc, List.cons_append, List.nil_append]
  ·simp only [hp, Bool.false_eq_true, if_false]
   exact Ev.now _
theorem impl_ParsePuzzle.ev {s : ByteArray} (hs : s.size ≤ 1048576) : (¬ IsT s.data.toList → Ev (fun k => impl_ParsePuzzle.f k s) (0, [], false)) ∧ (∀ w l, mPuzzle w l = true → s = pzT w l → Ev (fun k => impl_ParsePuzzle.f k s) (w, l, true)) := by
 have hlen : s.data.toList.length = s.size := by simp
 have hc := cutOf_brk2 s 119 (⟨#[119]⟩ : ByteArray) rfl
 cases hb : brk 119 s.data.toList with
 | none =>
  rw [hb] at hc
  refine ⟨fun _ => ?_, fun w l hm hst => ?_⟩
  ·unfold impl_ParsePuzzle.f
   refine Ev.bindc (cut_eq2 hs) ?_
   rw [hc]
   refine Ev.bindc (num_eq2 hs) ?_
   simp only [Bool.false_eq_true, if_false]
   refine Ev.succ ?_
   simp only [impl_ParsePuzzle.j0, if_true]
   exact Ev.now _
  ·rw [hst, pzT_data, brk_mk (no_sep2 (by decide))] at hb
   cases hb
 | some p =>
  rw [hb] at hc
  obtain ⟨x, y⟩ := p
  dsimp only at hc
  obtain ⟨e, _⟩ := brk_some hb
  have hl := congrArg List.length e
  simp only [List.length_append, List.length_cons] at hl
  have run : Ev (fun k => impl_ParsePuzzle.f k s) (if (numOf (mkS x)).2 = true then (if y = [] then (if mPuzzle (numOf (mkS x)).1 [] = true then ((numOf (mkS x)).1, [], true) else (0, [], false)) else (match pl (spl 44 y) with | some cs => if mPuzzle (numOf (mkS x)).1 cs = true then ((numOf (mkS x)).1, cs, true) else (0, [], false) | none => (0, [], false))) else (0, [], false)) := by
   unfold impl_ParsePuzzle.f
   refine Ev.bindc (cut_eq2 hs) ?_
   rw [hc]
   refine Ev.bindc (num_eq2 (by rw [mkS_size]; omega)) ?_
   simp only [if_true]
   refine Ev.succ ?_
   cases hnx : (numOf (mkS x)).2 with
   | false =>
    simp only [impl_ParsePuzzle.j0, Bool.not_false, if_true, Bool.false_eq_true, if_false]
    exact Ev.now _
   | true =>
    simp only [impl_ParsePuzzle.j0, Bool.not_true, Bool.false_eq_true, if_false, if_true]
    rw [Lib.toList_data, mkS_data]
    by_cases hy : y = []
    ·simp only [hy, if_true]
     refine Ev.bind (impl_IsPuzzle.ev _ []) ?_
     cases mPuzzle (numOf (mkS x)).1 [] with
     | true => simp only [if_true]; exact Ev.now _
     | false => simp only [Bool.false_eq_true, if_false]; exact Ev.now _
    ·simp only [hy, if_false]
     refine Ev.bindc (split_eq (by rw [mkS_size]; omega) 44 (⟨#[44]⟩ : ByteArray) rfl) ?_
     rw [mkS_data, List.length_map]
     have hq := part_len (c := 44) (l := y)
     have lp := impl_loop (spl 44 y) (numOf (mkS x)).1 (fun z hz => by have := hq.1 z hz; omega) (by omega) (spl 44 y).length 0 [] (by omega) (by simp)
     rw [List.drop_zero] at lp
     refine ev_eq lp ?_
     cases pl (spl 44 y) <;> rfl
  refine ⟨fun hno => ?_, fun w l hm hst => ?_⟩
  ·refine ev_eq run ?_
   by_cases hnx : (numOf (mkS x)).2 = true
   ·rw [if_pos hnx]
    by_cases hy : y = []
    ·rw [if_pos hy]
     by_cases hm : mPuzzle (numOf (mkS x)).1 [] = true
     ·refine absurd ⟨_, _, hm, ?_⟩ hno
      have hw := inr_iff.1 (mPz_parts hm).1
      have p0 := numOf_pos hnx (by omega)
      rw [mkS_data] at p0
      rw [e, hy, pzT_data, ← p0]
      rfl
     ·rw [if_neg hm]
    ·rw [if_neg hy]
     cases hp : pl (spl 44 y) with
     | none => rfl
     | some cs =>
      by_cases hm : mPuzzle (numOf (mkS x)).1 cs = true
      ·refine absurd ⟨_, _, hm, ?_⟩ hno
       have hw := inr_iff.1 (mPz_parts hm).1
       have p0 := numOf_pos hnx (by omega)
       rw [mkS_data] at p0
       have hW := pl_back _ _ hp (mPz_parts hm).2.2
       have hj := joinL_spl 44 _ y (Nat.le_refl _)
       rw [hW] at hj
       rw [e, pzT_data, ← p0, hj]
      ·simp only [if_neg hm]
   ·rw [if_neg hnx]
  ·refine ev_eq run ?_
   obtain ⟨m1, m2, m3⟩ := mPz_parts hm
   have hw := inr_iff.1 m1
   have hb2 := hb
   rw [hst, pzT_data, brk_mk (no_sep2 (by decide))] at hb2
   simp only [Option.some.injEq, Prod.mk.injEq] at hb2
   have hnum : numOf (mkS x) = (w, true) := by
    rw [← hb2.1]
    have := numOf_txt (n := w.toNat) (by omega)
    rw [show ((w.toNat : Nat) : Int) = w by omega] at this
    exact this
   rw [hnum]
   simp only [if_true]
   by_cases hl0 : l = []
   ·subst hl0
    rw [if_pos (show y = [] by rw [← hb2.2]; rfl), if_pos hm]
   ·rw [if_neg (by rw [← hb2.2]; exact rest_ne hl0), ← hb2.2, spl_rest hl0, pl_mk l m3]
    simp only [hm, if_true]
end Go.Proofs.YthioojdannlhiaaDoor.P

namespace Go.Proofs.YthioojdannlhiaaDoor.P
open Go.RowKit Go.Proofs.YthioojdannlhiaaDoorW.PrintWords Go.Proofs.YthioojdannlhiaaDoorW.PrintLast Go.Proofs.YthioojdannlhiaaDoorW.PrintMore
set_option linter.unusedVariables false
set_option linter.unusedSimpArgs false
def mkClueS (c : Int) (i : Nat) : S44 := ⟨c + 3 * (i : Int), c + 3 * (i : Int) + 1, c + 3 * (i : Int) + 2⟩
def MarkedClueS (c : Int) (l : List S44) (i : Nat) : Prop := ∀ j, j < i → rd_T44 l (j : Int) = mkClueS c j
theorem rd_setClueS (l : List S44) (i j : Nat) (x : S44) (h : i < l.length) : rd_T44 (l.set i x) (j : Int) = if j = i then x else rd_T44 l (j : Int) := by
 unfold rd_T44
 rw [Int.toNat_natCast, List.getD_eq_getElem?_getD, List.getD_eq_getElem?_getD]
 by_cases e : j = i
 ·subst e; rw [if_pos rfl, List.getElem?_set_self h]; rfl
 ·rw [if_neg e, List.getElem?_set_ne (by omega)]
theorem laws_markClueS.ev_l (c : Int) (hc : 0 ≤ c ∧ c ≤ 1000000) (n : Nat) (hn : n ≤ 1099511627776) (d : Nat) : ∀ (i : Nat) (l : List S44), l.length = n → i + d = n → MarkedClueS c l i → ∃ r : List S44, r.length = n ∧ MarkedClueS c r n ∧ Ev (fun k => laws_markClueS.l0 k l (c + 3 * (i : Int)) (i : Int)) (c + 3 * (n : Int), r) := by
 induction d with
 | zero =>
  intro i l hl hi hm
  obtain rfl : i = n := by omega
  refine ⟨l, hl, hm, ?_⟩
  refine Ev.succ ?_
  simp only [laws_markClueS.l0, show ¬ ((i : Int) < (l.length : Int)) by omega, if_false]
  exact Ev.now _
 | succ d ih =>
  intro i l hl hi hm
  have hlt : i < l.length := by omega
  obtain ⟨r, hr, hmr, hE⟩ := ih (i + 1) (l.set i (mkClueS c i)) (by simpa using hl) (by omega) (fun j hj => by
   rw [rd_setClueS l i j _ hlt]
   by_cases e : j = i
   ·rw [if_pos e, e]
   ·rw [if_neg e]; exact hm j (by omega))
  refine ⟨r, hr, hmr, ?_⟩
  refine Ev.succ ?_
  simp only [laws_markClueS.l0, show ((i : Int) < (l.length : Int)) by omega, show (0 : Int) ≤ (i : Int) by omega, if_true, Option.bind_some, Int.toNat_natCast]
  rw [wid (show -9223372036854775808 ≤ (c + 3 * (i : Int)) + 1 by omega) (by omega), wid (show -9223372036854775808 ≤ (c + 3 * (i : Int) + 1) + 1 by omega) (by omega), wid (show -9223372036854775808 ≤ (c + 3 * (i : Int) + 1 + 1) + 1 by omega) (by omega), wid (show -9223372036854775808 ≤ (i : Int) + 1 by omega) (by omega)]
  have e1 : c + 3 * (i : Int) + 1 + 1 + 1 = c + 3 * ((i + 1 : Nat) : Int) := by omega
  rw [e1]
  have e2 : ∀ (x : S44) (y : S44), (l.set i x).set i y = l.set i y := fun x y => List.set_set ..
  have e3 : ∀ x : S44, rd_T44 (l.set i x) (i : Int) = x := fun x => by rw [rd_setClueS l i i x hlt, if_pos rfl]
  simp only [e2, e3]
  have e4 : (⟨c + 3 * (i : Int), c + 3 * (i : Int) + 1, c + 3 * (i : Int) + 1 + 1⟩ : S44) = mkClueS c i := by unfold mkClueS; congr 1 <;> omega
  rw [e4]
  exact hE
theorem laws_markClueS.ev (l : List S44) (c : Int) (hc : 0 ≤ c ∧ c ≤ 1000000) (hl : l.length ≤ 1099511627776) : ∃ r : List S44, r.length = l.length ∧ MarkedClueS c r r.length ∧ Ev (fun k => laws_markClueS.f k l c) (c + 3 * (l.length : Int), r) := by
 obtain ⟨r, h1, h2, h3⟩ := laws_markClueS.ev_l c hc l.length hl l.length 0 l rfl (by omega) (fun j h => absurd h (by omega))
 refine ⟨r, h1, by rw [h1]; exact h2, ?_⟩
 unfold laws_markClueS.f
 simpa using h3
theorem laws_heldClueS.ev_l (c : Int) (hc : 0 ≤ c ∧ c ≤ 1000000) (l : List S44) (hn : l.length ≤ 1099511627776) (hm : MarkedClueS c l l.length) (d : Nat) : ∀ i : Nat, i + d = l.length → Ev (fun k => laws_heldClueS.l0 k l (c + 3 * (i : Int)) (i : Int)) (c + 3 * (l.length : Int)) := by
 induction d with
 | zero =>
  intro i hi
  obtain rfl : i = l.length := by omega
  refine Ev.succ ?_
  simp only [laws_heldClueS.l0, show ¬ ((l.length : Int) < (l.length : Int)) by omega, if_false]
  exact Ev.now _
 | succ d ih =>
  intro i hi
  refine Ev.succ ?_
  simp only [laws_heldClueS.l0, show ((i : Int) < (l.length : Int)) by omega, show (0 : Int) ≤ (i : Int) by omega, if_true, hm i (by omega), mkClueS]
  rw [wid (show -9223372036854775808 ≤ (c + 3 * (i : Int)) + 1 by omega) (by omega), wid (show -9223372036854775808 ≤ (c + 3 * (i : Int) + 1) + 1 by omega) (by omega), wid (show -9223372036854775808 ≤ (c + 3 * (i : Int) + 1 + 1) + 1 by omega) (by omega), wid (show -9223372036854775808 ≤ (i : Int) + 1 by omega) (by omega)]
  simp only [show (c + 3 * (i : Int) + 2 = c + 3 * (i : Int) + 1 + 1) by omega, if_true]
  have e1 : c + 3 * (i : Int) + 1 + 1 + 1 = c + 3 * ((i + 1 : Nat) : Int) := by omega
  rw [e1]
  exact ih (i + 1) (by omega)
theorem laws_heldClueS.ev (l : List S44) (c : Int) (hc : 0 ≤ c ∧ c ≤ 1000000) (hn : l.length ≤ 1099511627776) (hm : MarkedClueS c l l.length) : Ev (fun k => laws_heldClueS.f k l c) (c + 3 * (l.length : Int)) := by
 unfold laws_heldClueS.f
 simpa using laws_heldClueS.ev_l c hc l hn hm l.length 0 (by omega)
end Go.Proofs.YthioojdannlhiaaDoor.P

namespace Go.Proofs.YthioojdannlhiaaDoor.P
open Go.RowKit Go.Proofs.YthioojdannlhiaaDoorW.PrintWords Go.Proofs.YthioojdannlhiaaDoorW.PrintLast Go.Proofs.YthioojdannlhiaaDoorW.PrintMore
set_option linter.unusedVariables false
set_option linter.unusedSimpArgs false
theorem bt_data (s : ByteArray) (i : Nat) (h : i < s.size) : bt s (i : Int) = ((s.data.toList[i]'(by simpa using h)).toNat : Int) := by
 unfold bt
 rw [dif_pos (by simpa using h)]
 simp only [Int.toNat_natCast]
 rfl
theorem extract_mkS (s : ByteArray) (a b : Nat) : s.extract a b = mkS ((s.data.toList.drop a).take (b - a)) := ba_ext (by rw [Lib.extract_data]; rfl)
theorem spec_l1Split.ev_l (s : ByteArray) (hs : s.size ≤ 2000000) (c : UInt8) (d : Nat) : ∀ (i from_ : Nat) (out : List ByteArray), i + d = s.size → from_ ≤ i → out.length ≤ i → Ev (fun k => spec_l1Split.l0 k s (c.toNat : Int) out (from_ : Int) (i : Int)) (out ++ (glue ((s.data.toList.drop from_).take (i - from_)) (spl c (s.data.toList.drop i))).map mkS) := by
 induction d with
 | zero =>
  intro i from_ out hi hf ho
  refine Ev.succ ?_
  simp only [spec_l1Split.l0, show ¬ ((i : Int) < (s.size : Int)) by omega, if_false, show (0 : Int) ≤ (from_ : Int) by omega, show (from_ : Int) ≤ (s.size : Int) by omega, show out.length < 8796093022208 by omega, if_true, Int.toNat_natCast]
  refine Ev.const ?_
  have hn : s.data.toList.drop i = [] := List.drop_eq_nil_of_le (by simp; omega)
  rw [hn, extract_mkS, show s.size = i by omega]
  simp [spl, glue]
 | succ d ih =>
  intro i from_ out hi hf ho
  have hlt : i < s.size := by omega
  have hlt' : i < s.data.toList.length := by simpa using hlt
  refine Ev.succ ?_
  simp only [spec_l1Split.l0, show ((i : Int) < (s.size : Int)) by omega, show (0 : Int) ≤ (i : Int) by omega, if_true, bt_data s i hlt]
  rw [wid (show -9223372036854775808 ≤ (i : Int) + 1 by omega) (by omega)]
  rw [List.drop_eq_getElem_cons hlt']
  by_cases e : s.data.toList[i] = c
  ·simp only [e, if_true, show (0 : Int) ≤ (from_ : Int) by omega, show (from_ : Int) ≤ (i : Int) by omega, show (i : Int) ≤ (s.size : Int) by omega, show out.length < 8796093022208 by omega, Int.toNat_natCast]
   have q := ih (i + 1) (i + 1) (out ++ [s.extract from_ i]) (by omega) (Nat.le_refl _) (by rw [List.length_append]; simp only [List.length_cons, List.length_nil]; omega)
   refine ev_eq q ?_
   rw [Nat.sub_self, List.take_zero, glue_nil (spl_ne _ _), extract_mkS]
   simp [spl, glue]
  ·have e' : ¬ ((s.data.toList[i].toNat : Int) = (c.toNat : Int)) := fun q => e (UInt8.toNat_inj.1 (by omega))
   simp only [e', if_false]
   have q := ih (i + 1) from_ out (by omega) (by omega) (by omega)
   refine ev_eq q ?_
   congr 2
   rw [spl, if_neg e, glue_glue _ _ _ (spl_ne _ _)]
   congr 1
   rw [show i + 1 - from_ = (i - from_) + 1 by omega, List.take_succ_eq_append_getElem (by simp; omega)]
   congr 1
   simp only [List.getElem_drop, List.cons.injEq, and_true]
   congr 1
   omega
theorem spec_l1Split.ev {s : ByteArray} (hs : s.size ≤ 2000000) (c : UInt8) : Ev (fun k => spec_l1Split.f k s (c.toNat : Int)) ((spl c s.data.toList).map mkS) := by
 unfold spec_l1Split.f
 have q := spec_l1Split.ev_l s hs c s.size 0 0 [] (by omega) (Nat.le_refl _) (by simp)
 refine ev_eq q ?_
 rw [List.drop_zero, Nat.sub_self, List.take_zero, glue_nil (spl_ne _ _), List.nil_append]
end Go.Proofs.YthioojdannlhiaaDoor.P

namespace Go.Proofs.YthioojdannlhiaaDoor.P
open Go.RowKit Go.Proofs.YthioojdannlhiaaDoorW.PrintWords Go.Proofs.YthioojdannlhiaaDoorW.PrintLast Go.Proofs.YthioojdannlhiaaDoorW.PrintMore
set_option linter.unusedVariables false
set_option linter.unusedSimpArgs false
/-- The number that a text of one to six digits without a nought ahead tells, or -1. -/
def rd6 (l : List UInt8) : Int := if 1 ≤ l.length ∧ l.length ≤ 6 ∧ ¬ (l.head? = some 48 ∧ 1 < l.length) then (match Lib.decFrom 0 l with | some v => (v : Int) | none => -1) else -1
theorem spec_l1Read.ev_l (s : ByteArray) (hs : s.size ≤ 6) (d : Nat) : ∀ (i acc : Nat), i + d = s.size → acc + 1 ≤ 10 ^ i → Ev (fun k => spec_l1Read.l0 k s (acc : Int) (i : Int)) (match Lib.decFrom acc (s.data.toList.drop i) with | some v => (v : Int) | none => -1) := by
 induction d with
 | zero =>
  intro i acc hi _
  refine Ev.succ ?_
  simp only [spec_l1Read.l0, show ¬ ((i : Int) < (s.size : Int)) by omega, if_false]
  have hn : s.data.toList.drop i = [] := List.drop_eq_nil_of_le (by simp; omega)
  rw [hn]
  exact Ev.now _
 | succ d ih =>
  intro i acc hi ha
  have hlt : i < s.size := by omega
  have hlt' : i < s.data.toList.length := by simpa using hlt
  have hp : 10 ^ i ≤ 10 ^ 6 := Nat.pow_le_pow_right (by omega) (by omega)
  refine Ev.succ ?_
  simp only [spec_l1Read.l0, show ((i : Int) < (s.size : Int)) by omega, show (0 : Int) ≤ (i : Int) by omega, if_true, bt_data s i hlt]
  rw [List.drop_eq_getElem_cons hlt']
  simp only [Lib.decFrom, Lib.digitVal]
  by_cases c : 48 ≤ s.data.toList[i].toNat ∧ s.data.toList[i].toNat ≤ 57
  ·simp only [c, and_self, if_true, show ¬ ((s.data.toList[i].toNat : Int) < 48) by omega, show ¬ ((s.data.toList[i].toNat : Int) > 57) by omega, if_false]
   rw [wid (show -9223372036854775808 ≤ 10 * (acc : Int) by omega) (by omega), show ((s.data.toList[i].toNat : Int) - 48) % 256 = ((s.data.toList[i].toNat - 48 : Nat) : Int) by omega, wid (show -9223372036854775808 ≤ 10 * (acc : Int) + ((s.data.toList[i].toNat - 48 : Nat) : Int) by omega) (by omega), wid (show -9223372036854775808 ≤ (i : Int) + 1 by omega) (by omega), show 10 * (acc : Int) + ((s.data.toList[i].toNat - 48 : Nat) : Int) = ((acc * 10 + (s.data.toList[i].toNat - 48) : Nat) : Int) by omega]
   exact ih (i + 1) _ (by omega) (by rw [Nat.pow_succ]; omega)
  ·simp only [c, if_false]
   by_cases c1 : (s.data.toList[i].toNat : Int) < 48
   ·simp only [c1, if_true]; exact Ev.now _
   ·simp only [c1, if_false, show (s.data.toList[i].toNat : Int) > 57 by omega, if_true]; exact Ev.now _
theorem spec_l1Read.ev {s : ByteArray} (hs : s.size ≤ 2000000) : Ev (fun k => spec_l1Read.f k s) (rd6 s.data.toList) := by
 have hlen : s.data.toList.length = s.size := by simp
 unfold spec_l1Read.f rd6
 refine Ev.bindc (spec_l1In.eq _ 1 6) ?_
 by_cases c : 1 ≤ s.size ∧ s.size ≤ 6
 ·rw [show inr 1 6 (s.size : Int) = true from inr_iff.2 (by omega)]
  have hb := bt_data s 0 (by omega)
  have h0 : (0 : Nat) < s.data.toList.length := by omega
  have hh : s.data.toList.head? = some s.data.toList[0] := by rw [List.head?_eq_getElem?, List.getElem?_eq_getElem h0]
  have loop := spec_l1Read.ev_l s c.2 s.size 0 0 (by omega) (by simp)
  rw [List.drop_zero] at loop
  simp only [if_true, show (0 : Int) < (s.size : Int) by omega]
  rw [show bt s 0 = ((s.data.toList[0]'h0).toNat : Int) from hb, hh, hlen]
  by_cases z : s.data.toList[0] = 48
  ·have z' : ((s.data.toList[0].toNat : Int) = 48) := by rw [z]; rfl
   simp only [z', if_true]
   by_cases l2 : 1 < s.size
   ·rw [if_neg (by intro q; exact q.2.2 ⟨by rw [z], l2⟩)]
    refine Ev.succ ?_
    simp only [spec_l1Read.j0, show ((s.size : Int) > 1) by omega, decide_true, if_true]
    exact Ev.now _
   ·rw [if_pos ⟨c.1, c.2, fun q => l2 q.2⟩]
    refine Ev.succ ?_
    simp only [spec_l1Read.j0, show ¬ ((s.size : Int) > 1) by omega, decide_false, Bool.false_eq_true, if_false]
    exact loop
  ·have z' : ¬ ((s.data.toList[0].toNat : Int) = 48) := fun q => z (UInt8.toNat_inj.1 (by show s.data.toList[0].toNat = 48; omega))
   simp only [z', if_false]
   rw [if_pos ⟨c.1, c.2, fun q => z (Option.some.inj q.1)⟩]
   refine Ev.succ ?_
   simp only [spec_l1Read.j0, Bool.false_eq_true, if_false]
   exact loop
 ·rw [show inr 1 6 (s.size : Int) = false from Bool.eq_false_iff.2 (fun q => c (by have := inr_iff.1 q; omega)), hlen, if_neg (fun q => c ⟨q.1, q.2.1⟩)]
  simp only [Bool.false_eq_true, if_false]
  refine Ev.succ ?_
  simp only [spec_l1Read.j0, if_true]
  exact Ev.now _
theorem rd6_txt {n : Nat} (h : n < 1000000) : rd6 (Lib.decDigits n) = (n : Int) := by
 have h1 := dec_len 5 n (by simpa using h)
 have h2 := dec_ne n
 have g1 : 1 ≤ (Lib.decDigits n).length := by
  rcases Nat.eq_zero_or_pos (Lib.decDigits n).length with z | z
  ·exact absurd (List.eq_nil_of_length_eq_zero z) h2
  ·exact z
 have g2 : ¬ ((Lib.decDigits n).head? = some 48 ∧ 1 < (Lib.decDigits n).length) := by
  intro q
  rcases Nat.eq_zero_or_pos n with z | z
  ·subst z
   rw [Lib.decDigits_one (by omega)] at q
   simp at q
  ·obtain ⟨b, r, e, hb⟩ := dec_head n z
   rw [e] at q
   simp only [List.head?_cons, Option.some.injEq] at q
   rw [q.1] at hb
   exact hb rfl
 unfold rd6
 rw [if_pos ⟨g1, h1, g2⟩, decFrom_dec]
theorem rd6_back {l : List UInt8} (h : 0 ≤ rd6 l) : l = Lib.decDigits (rd6 l).toNat := by
 unfold rd6 at h ⊢
 by_cases c : 1 ≤ l.length ∧ l.length ≤ 6 ∧ ¬ (l.head? = some 48 ∧ 1 < l.length)
 ·rw [if_pos c] at h ⊢
  cases hd : Lib.decFrom 0 l with
  | none => rw [hd] at h; simp at h
  | some v =>
   simp only [Int.toNat_natCast]
   refine (dec_of_decFrom (l.length - 1) l v (by omega) ?_ hd).1.symm
   by_cases q : l.head? = some 48
   ·exact .inl (by have := c.2.2; by_cases q2 : 1 < l.length; exact absurd ⟨q, q2⟩ this; omega)
   ·exact .inr q
 ·rw [if_neg c] at h
  omega
end Go.Proofs.YthioojdannlhiaaDoor.P

namespace Go.Proofs.YthioojdannlhiaaDoor.P
open Go.RowKit Go.Proofs.YthioojdannlhiaaDoorW.PrintWords Go.Proofs.YthioojdannlhiaaDoorW.PrintLast Go.Proofs.YthioojdannlhiaaDoorW.PrintMore
set_option linter.unusedVariables false
set_option linter.unusedSimpArgs false
theorem spec_end (s : ByteArray) (w : Int) (l : List S44) : ∃ r : Int × List S44 × Bool, Ev (fun k => (spec_pzGood.f k w l).bind fun t240 => if t240 = true then (spec_pzText.f k w l).bind fun t241 => some (w, l, (t241.toList == s.toList)) else some (w, l, false)) r ∧ (r.2.2 = true → mPuzzle w l = true ∧ s = pzT w l) ∧ (mPuzzle w l = true → s = pzT w l → r = (w, l, true)) := by
 cases h : mPuzzle w l with
 | false =>
  refine ⟨(w, l, false), ?_, by simp, by simp⟩
  refine Ev.bind (spec_pzGood.ev w l) ?_
  simp only [h, Bool.false_eq_true, if_false]
  exact Ev.now _
 | true =>
  obtain ⟨h1, h2, h3⟩ := mPz_parts h
  refine ⟨(w, l, ((pzT w l).toList == s.toList)), ?_, ?_, ?_⟩
  ·refine Ev.bind (spec_pzGood.ev w l) ?_
   simp only [h, if_true]
   exact Ev.bind (spec_pzText.ev (inr_iff.1 h1) h2 h3) (Ev.now _)
  ·intro q
   have q2 := beq_iff_eq.1 q
   rw [Lib.toList_data, Lib.toList_data] at q2
   exact ⟨rfl, (ba_ext q2).symm⟩
  ·intro _ e
   rw [e, beq_self_eq_true]
theorem spec_loop (s : ByteArray) (W : List (List UInt8)) (w : Int) (hW : ∀ x ∈ W, x.length ≤ 100) (hn : W.length ≤ 200) (d : Nat) : ∀ (i : Nat) (out : List S44), i + d = W.length → out.length ≤ i → ∃ r : Int × List S44 × Bool, Ev (fun k => spec_pzParse.l0 k s (W.map mkS) (W.length : Int) (i : Int) w out) r ∧ (r.2.2 = true → ∃ l, mPuzzle w l = true ∧ s = pzT w l) ∧ (∀ cs, W.drop i = cs.map ctD → cs.all mClueS = true → mPuzzle w (out ++ cs) = true → s = pzT w (out ++ cs) → r = (w, out ++ cs, true)) := by
 induction d with
 | zero =>
  intro i out hi ho
  obtain ⟨r, e1, e2, e3⟩ := spec_end s w out
  refine ⟨r, ?_, fun q => ⟨out, e2 q⟩, fun cs hc _ h1 h2 => ?_⟩
  ·refine Ev.succ ?_
   simp only [spec_pzParse.l0, show ¬ ((i : Int) < (W.length : Int)) by omega, if_false]
   exact e1
  ·have : cs = [] := by
    rw [List.drop_eq_nil_of_le (by omega)] at hc
    cases cs with | nil => rfl | cons _ _ => simp at hc
   subst this
   rw [List.append_nil] at h1 h2 ⊢
   exact e3 h1 h2
 | succ d ih =>
  intro i out hi ho
  have hlt : i < W.length := by omega
  have hx := hW _ (List.getElem_mem hlt)
  have hrd := rdOf_mk2 (l := W) hlt
  have hp := part_len (c := 46) (l := W[i])
  have hsp := spec_l1Split.ev (s := mkS W[i]) (by rw [mkS_size]; omega) 46
  rw [mkS_data] at hsp
  by_cases c3 : (spl 46 W[i]).length = 3
  ·obtain ⟨x, y, z, e⟩ : ∃ x y z, spl 46 W[i] = [x, y, z] := by
    match hq : spl 46 W[i], c3 with
    | [x, y, z], _ => exact ⟨x, y, z, rfl⟩
   rw [e] at hsp hp
   have hx1 := hp.1 x (by simp)
   have hy1 := hp.1 y (by simp)
   have hz1 := hp.1 z (by simp)
   obtain ⟨r, e1, e2, e3⟩ := ih (i + 1) (out ++ [⟨rd6 x, rd6 y, rd6 z⟩]) (by omega) (by rw [List.length_append]; simp only [List.length_cons, List.length_nil]; omega)
   refine ⟨r, ?_, e2, fun cs hc ha h1 h2 => ?_⟩
   ·refine Ev.succ ?_
    simp only [spec_pzParse.l0, List.length_map, show ((i : Int) < (W.length : Int)) by omega, show (0 : Int) ≤ (i : Int) by omega, if_true, hrd]
    refine Ev.bind hsp ?_
    have r0 : rdOf ByteArray.empty ([x, y, z].map mkS) 0 = mkS x := rfl
    have r1 : rdOf ByteArray.empty ([x, y, z].map mkS) 1 = mkS y := rfl
    have r2 : rdOf ByteArray.empty ([x, y, z].map mkS) 2 = mkS z := rfl
    have hl3 : ((([x, y, z].map mkS).length : Nat) : Int) = 3 := rfl
    simp only [hl3, r0, r1, r2, if_true, show (0 : Int) < 3 by omega, show (1 : Int) < 3 by omega, show (2 : Int) < 3 by omega]
    refine Ev.bind (spec_l1Read.ev (s := mkS x) (by rw [mkS_size]; omega)) ?_
    refine Ev.bind (spec_l1Read.ev (s := mkS y) (by rw [mkS_size]; omega)) ?_
    refine Ev.bind (spec_l1Read.ev (s := mkS z) (by rw [mkS_size]; omega)) ?_
    simp only [mkS_data, show out.length < 5864062014805 by omega, if_true]
    rw [wid (show -9223372036854775808 ≤ (i : Int) + 1 by omega) (by omega)]
    exact e1
   ·rw [List.drop_eq_getElem_cons hlt] at hc
    cases cs with
    | nil => exact absurd hc (List.cons_ne_nil _ _)
    | cons c cs =>
     simp only [List.map_cons, List.cons.injEq] at hc
     simp only [List.all_cons, Bool.and_eq_true] at ha
     have hb := mClueS_bd ha.1
     have hq := spl_ctD c
     rw [← hc.1, e] at hq
     simp only [List.cons.injEq, and_true] at hq
     have v0 := rd6_txt (n := c.f0.toNat) (by omega)
     have v1 := rd6_txt (n := c.f1.toNat) (by omega)
     have v2 := rd6_txt (n := c.f2.toNat) (by omega)
     have hcl : (⟨rd6 x, rd6 y, rd6 z⟩ : S44) = c := by
      rw [hq.1, hq.2.1, hq.2.2, v0, v1, v2]
      cases c
      simp only [S44.mk.injEq] at *
      omega
     rw [hcl] at e3
     have e3' := e3 cs hc.2 ha.2
     rw [List.append_assoc] at e3'
     exact e3' h1 h2
  ·refine ⟨(0, [], false), ?_, by simp, fun cs hc ha h1 h2 => ?_⟩
   ·refine Ev.succ ?_
    simp only [spec_pzParse.l0, List.length_map, show ((i : Int) < (W.length : Int)) by omega, show (0 : Int) ≤ (i : Int) by omega, if_true, hrd]
    refine Ev.bind hsp ?_
    simp only [List.length_map, show ¬ (((spl 46 W[i]).length : Int) = 3) by omega, if_false]
    exact Ev.now _
   ·rw [List.drop_eq_getElem_cons hlt] at hc
    cases cs with
    | nil => exact absurd hc (List.cons_ne_nil _ _)
    | cons c cs =>
     simp only [List.map_cons, List.cons.injEq] at hc
     rw [hc.1, spl_ctD] at c3
     exact absurd rfl c3
theorem spec_pzParse.ev {s : ByteArray} (hs : s.size ≤ 1048576) : ∃ r : Int × List S44 × Bool, Ev (fun k => spec_pzParse.f k s) r ∧ (r.2.2 = true → IsT s.data.toList) ∧ (∀ w l, mPuzzle w l = true → s = pzT w l → r = (w, l, true)) := by
 have hlen : s.data.toList.length = s.size := by simp
 have hsp := spec_l1Split.ev (s := s) (by omega) 119
 have hp := part_len (c := 119) (l := s.data.toList)
 by_cases c1 : s.size ≤ 100 ∧ (spl 119 s.data.toList).length = 2
 ·obtain ⟨x, y, e⟩ : ∃ x y, spl 119 s.data.toList = [x, y] := by
   match hq : spl 119 s.data.toList, c1.2 with
   | [x, y], _ => exact ⟨x, y, rfl⟩
  rw [e] at hsp hp
  have hx1 := hp.1 x (by simp)
  have hy1 := hp.1 y (by simp)
  have hq2 := part_len (c := 44) (l := y)
  have good : ∀ w l, mPuzzle w l = true → s = pzT w l → x = Lib.decDigits w.toNat ∧ y = joinL 44 (l.map ctD) ∧ rd6 x = w := by
   intro w l hm hst
   obtain ⟨m1, m2, m3⟩ := mPz_parts hm
   have hw := inr_iff.1 m1
   have hno : (119 : UInt8) ∉ joinL 44 (l.map ctD) := joinL_no (by decide) _ (fun z hz => by obtain ⟨c, _, rfl⟩ := List.mem_map.1 hz; exact ctD_no (by decide))
   have e2 := e
   rw [hst, pzT_data, spl_mk (no_sep2 (by decide)), spl_no hno] at e2
   simp only [List.cons.injEq, and_true] at e2
   refine ⟨e2.1.symm, e2.2.symm, ?_⟩
   rw [← e2.1, rd6_txt (by omega)]
   omega
  have r0 : rdOf ByteArray.empty ([x, y].map mkS) 0 = mkS x := rfl
  have r1 : rdOf ByteArray.empty ([x, y].map mkS) 1 = mkS y := rfl
  have hl2 : ((([x, y].map mkS).length : Nat) : Int) = 2 := rfl
  by_cases cy : y = []
  ·obtain ⟨r, e1, e2, e3⟩ := spec_end s (rd6 x) []
   refine ⟨r, ?_, fun q => ⟨_, _, (e2 q).1, by rw [(e2 q).2]⟩, fun w l hm hst => ?_⟩
   ·unfold spec_pzParse.f
    refine Ev.bind hsp ?_
    simp only [show ¬ ((s.size : Int) > 100) by omega, if_false, hl2, bne_self_eq_false]
    refine Ev.succ ?_
    simp only [spec_pzParse.j0, hl2, r0, r1, Bool.false_eq_true, if_false, if_true, show (0 : Int) < 2 by omega, show (1 : Int) < 2 by omega, mkS_size, cy, List.length_nil, show ¬ (((0 : Nat) : Int) > 0) by omega]
    refine Ev.bind (spec_l1Read.ev (s := mkS x) (by rw [mkS_size]; omega)) ?_
    exact e1
   ·obtain ⟨g1, g2, g3⟩ := good w l hm hst
    have hl : l = [] := by
     cases l with
     | nil => rfl
     | cons c t => exact absurd (g2.symm.trans cy) (rest_ne (by simp))
    subst hl
    rw [g3] at e3
    exact e3 hm hst
  ·obtain ⟨r, e1, e2, e3⟩ := spec_loop s (spl 44 y) (rd6 x) (fun z hz => by have := hq2.1 z hz; omega) (by omega) (spl 44 y).length 0 [] (by omega) (by simp)
   refine ⟨r, ?_, fun q => ?_, fun w l hm hst => ?_⟩
   ·unfold spec_pzParse.f
    refine Ev.bind hsp ?_
    simp only [show ¬ ((s.size : Int) > 100) by omega, if_false, hl2, bne_self_eq_false]
    refine Ev.succ ?_
    have hy0 : ((y.length : Nat) : Int) > 0 := by
     cases y with
     | nil => exact absurd rfl cy
     | cons b t => simp only [List.length_cons]; omega
    simp only [spec_pzParse.j0, hl2, r0, r1, Bool.false_eq_true, if_false, if_true, show (0 : Int) < 2 by omega, show (1 : Int) < 2 by omega, mkS_size, hy0]
    refine Ev.bind (spec_l1Read.ev (s := mkS x) (by rw [mkS_size]; omega)) ?_
    have hs2 := spec_l1Split.ev (s := mkS y) (by rw [mkS_size]; omega) 44
    refine Ev.bind hs2 ?_
    rw [mkS_data, List.length_map]
    exact e1
   ·obtain ⟨l, h1, h2⟩ := e2 q
    exact ⟨_, l, h1, by rw [h2]⟩
   ·obtain ⟨g1, g2, g3⟩ := good w l hm hst
    have hl : l ≠ [] := by
     intro q
     subst q
     exact cy g2
    have h3 := (mPz_parts hm).2.2
    have e3' := e3 l (by rw [List.drop_zero, g2, spl_rest hl]) h3
    rw [List.nil_append, g3] at e3'
    exact e3' hm hst
 ·refine ⟨(0, [], false), ?_, by simp, fun w l hm hst => ?_⟩
  ·unfold spec_pzParse.f
   refine Ev.bind hsp ?_
   by_cases c0 : (s.size : Int) > 100
   ·simp only [c0, if_true]
    refine Ev.succ ?_
    simp only [spec_pzParse.j0, if_true]
    exact Ev.now _
   ·simp only [c0, if_false, List.length_map]
    refine Ev.succ ?_
    have e2 : (((spl 119 s.data.toList).length : Int) != 2) = true := bne_iff_ne.2 (by omega)
    simp only [spec_pzParse.j0, e2, if_true]
    exact Ev.now _
  ·have hl := pzT_len hm
   rw [← hst, hlen] at hl
   have hno : (119 : UInt8) ∉ joinL 44 (l.map ctD) := joinL_no (by decide) _ (fun z hz => by obtain ⟨c, _, rfl⟩ := List.mem_map.1 hz; exact ctD_no (by decide))
   refine absurd ⟨hl, ?_⟩ c1
   rw [hst, pzT_data, spl_mk (no_sep2 (by decide)), spl_no hno]
   rfl
theorem spec_ParsePuzzle.ev {s : ByteArray} (hs : s.size ≤ 1048576) : (¬ IsT s.data.toList → Ev (fun k => spec_ParsePuzzle.f k s) (0, [], false)) ∧ (∀ w l, mPuzzle w l = true → s = pzT w l → Ev (fun k => spec_ParsePuzzle.f k s) (w, l, true)) := by
 obtain ⟨r, e1, e2, e3⟩ := spec_pzParse.ev hs
 refine ⟨fun h => ?_, fun w l hm hst => ?_⟩
 ·unfold spec_ParsePuzzle.f
  refine Ev.bind e1 ?_
  have : ¬ (r.2.2 = true) := fun q => h (e2 q)
  simp only [this, Bool.false_eq_true, if_false]
  exact Ev.now _
 ·unfold spec_ParsePuzzle.f
  refine Ev.bind e1 ?_
  rw [e3 w l hm hst]
  simp only [if_true]
  exact Ev.now _
end Go.Proofs.YthioojdannlhiaaDoor.P

namespace Go.Proofs.YthioojdannlhiaaDoor.Pure
open Go.RowKit Go.Proofs.YthioojdannlhiaaDoorW.PrintWords Go.Proofs.YthioojdannlhiaaDoorW.PrintLast Go.Proofs.YthioojdannlhiaaDoorW.PrintMore Go.Proofs.YthioojdannlhiaaDoor.P
set_option linter.unusedVariables false
set_option linter.unusedSimpArgs false
theorem FnExactParsePuzzle : laws_FnExactParsePuzzle.Pure := by
 intro s _
 by_cases c : (s.size : Int) > 1048576
 ·refine ⟨0, ?_⟩
  unfold laws_FnExactParsePuzzle.f
  rw [if_pos c]
 ·have hs : s.size ≤ 1048576 := by omega
  obtain ⟨s1, s2⟩ := spec_ParsePuzzle.ev hs
  obtain ⟨i1, i2⟩ := impl_ParsePuzzle.ev hs
  have both : ∃ r : Int × List S44 × Bool, Ev (fun k => spec_ParsePuzzle.f k s) r ∧ Ev (fun k => impl_ParsePuzzle.f k s) r ∧ r.2.1.length ≤ 1099511627776 := by
   by_cases g : IsT s.data.toList
   ·obtain ⟨w, l, hm, e⟩ := g
    have hst : s = pzT w l := ba_ext e
    have h2 := (mPz_parts hm).2.1
    exact ⟨(w, l, true), s2 w l hm hst, i2 w l hm hst, by simp only; omega⟩
   ·exact ⟨(0, [], false), s1 g, i1 g, by simp⟩
  obtain ⟨r, e1, e2, hn⟩ := both
  have he := laws_eqPuzzle.refl (a := r.1) (l := r.2.1) (by omega)
  refine Ev.rounds ?_
  unfold laws_FnExactParsePuzzle.f
  simp only [c, if_false]
  refine Ev.bind e1 ?_
  refine Ev.bind e2 ?_
  refine Ev.bind he ?_
  simp only [if_true, bne_self_eq_false]
  refine Ev.succ ?_
  simp only [laws_FnExactParsePuzzle.j0, Bool.false_eq_true, if_false]
  obtain ⟨r2, hr2, hm2, he2⟩ := laws_markClueS.ev r.2.1 1 (by omega) hn
  refine Ev.bind (a := (1 + 3 * (r.2.1.length : Int), r2)) (by unfold laws_markPuzzle.f; exact Ev.bind he2 (Ev.now _)) ?_
  have hh := laws_heldClueS.ev r2 1 (by omega) (by omega) hm2
  rw [hr2] at hh
  have hh2 : Ev (fun k => laws_heldPuzzle.f k r.1 r2 1) (1 + 3 * (r.2.1.length : Int)) := by
   unfold laws_heldPuzzle.f
   refine Ev.bind hh ?_
   simp only [show ¬ (1 + 3 * (r.2.1.length : Int) < 0) by omega, if_false]
   exact Ev.now _
  refine Ev.bind hh2 ?_
  simp only [show ¬ (1 + 3 * (r.2.1.length : Int) < 0) by omega, if_false, if_true]
  refine Ev.bind e2 ?_
  refine Ev.bind he ?_
  simp only [if_true, bne_self_eq_false]
  refine Ev.succ ?_
  simp only [laws_FnExactParsePuzzle.j1, Bool.false_eq_true, if_false]
  refine Ev.bind hh2 ?_
  simp only [show ¬ (1 + 3 * (r.2.1.length : Int) < 0) by omega, if_false, if_true]
  exact Ev.now _
end Go.Proofs.YthioojdannlhiaaDoor.Pure

namespace Go.Proofs.YthioojdannlhiaaDoor.fnExactParsePuzzle
open Go.ChangeShapes Go.WideShapes Go.ChangeAt Go.RowKit Go.Deep
open Go.ChangeMaps (open_string shut_string)
open Go.Proofs.YthioojdannlhiaaDoorW.PrintWords Go.Proofs.YthioojdannlhiaaDoorW.PrintLast Go.Proofs.YthioojdannlhiaaDoorW.PrintMore Go.Proofs.YthioojdannlhiaaDoor.P
set_option linter.unusedVariables false
set_option linter.unusedSimpArgs false
theorem own : ownKnob Tryd.prog.godebug = none := by kernel_rfl
theorem laidOut : laidOutB Tryd.prog = true := by kernel_rfl
theorem cof9 : Tryd.prog.cellsOf 9 = 1 := by kernel_rfl
/-- The builder, with the world's shape. -/
theorem of_change_shaped {H : Type} {enc : TypeId × Value → H} {a : Assume} {C : Checked} {os : Os} {f : FuncId} {fn : Func} {s : ChangeSpec} {conds : List PathCond} {apart fresh handsOn again : Bool} {X : World → Array Value → Prop}
  (hX : ∀ (w w' : World) (args : Array Value), w.heap = w'.heap → X w args → X w' args)
  (own : ownKnob C.prog.godebug = none) (started : os.Started) (noInit : C.prog.inits.idxOf? f = none) (hfn : C.prog.funcs[f]? = some fn)
  (witness : ∃ (w : World) (tape : Tape) (i : Input), w.os = os ∧ (w.forCall tape i).Shaped C.prog ∧ i.vars = [] ∧ Input.okWide C.prog (w.forCall tape i) .any w.heap.size f i ∧
   ((s.pre enc C.prog fn conds apart (w.forCall tape i).memory i.args ∧ X (w.forCall tape i).memory i.args) ∧ sizedMet enc C.prog fn (OpenSpec.ofChange s) apart (w.forCall tape i).memory i.args) ∧ a.holds C.prog (lone (Frame.enter C.prog f i.args .normal) [] (w.forCall tape i)))
  (contract : ∀ (W : World) (base : Nat) (args : Array Value) (ds gs : List (DataW H)) (before : List MemPlace),
   (∀ (j : Nat) t v, fn.params[j]? = some t → args[j]? = some v → Value.okWide C.prog W .any base t v) →
   DataW.Whole enc C.prog fn.params.toList s.vars apart W args.toList ds gs before →
   conds.all (PathCond.test C.prog ⟨fn.params.toList, ds, s.plain.varTypes C.prog, gs⟩) = true →
   (DataW.weightsEach C.prog (fn.params.toList ++ s.plain.varTypes C.prog) (ds ++ gs)).all (· ≤ reachBytes) = true → X W args → W.ShapedOpen C.prog →
   Calls C.prog f args W fun e W' => ∃ v, e = .returned v ∧ s.post enc C.prog fn apart fresh handsOn again W args v W') :
  ReturnsInHanded a C os f .any (fun w args => (s.pre enc C.prog fn conds apart w args ∧ X w args) ∧ sizedMet enc C.prog fn (OpenSpec.ofChange s) apart w args) (s.post enc C.prog fn apart fresh handsOn again) := by
 refine returnsInHanded_of_calls own started noInit witness ?_
 intro w tape i _ hsh _ hok hpre _
 obtain ⟨_, _, _, fn', hfn', _, _, _, _, hval⟩ := hok
 have e : fn' = fn := Option.some.inj (hfn'.symm.trans hfn)
 subst e
 obtain ⟨⟨⟨ds, gs, before, hw, hc⟩, hx⟩, hz⟩ := hpre
 have hw' := DataW.Whole.of_heap (w' := w.forCall tape i) (by rfl) hw
 refine (contract (w.forCall tape i) w.heap.size i.args ds gs before hval hw' hc (hz.weights hw) (hX _ _ _ (by rfl) hx) hsh).mono fun e W' ⟨v, he, hp⟩ => ?_
 subst he
 exact ChangeSpec.post_blind hp
set_option maxRecDepth 100000 in
theorem door_met (os : Os) (args : Array Value) : laidMet Tryd.prog Rows.fnExactParsePuzzleRow.laid ((World.laidAll Tryd.prog os Rows.fnExactParsePuzzleRow.laid).forCall (fun _ _ => 0) ⟨#[], args, []⟩).memory :=
 laidMet_laidAll _ (by kernel_rfl) (by kernel_rfl)
theorem laidP {W : World} (h : laidMet Tryd.prog Rows.fnExactParsePuzzleRow.laid W) : P.LaidP W :=
 Lib.tabIs_of_head (g := 3) (t := 113) (e := 98) (n := 20) (by kernel_rfl) (by kernel_rfl) Tryd.underlying113 Tryd.underlying98 (by kernel_rfl) (by kernel_rfl) (laidMet.tail (laidMet.tail h))
theorem star : "*" ++ "errors.errorString" = "*errors.errorString" := by decide
theorem rowE (u : TypeId) (h : Tryd.prog.typeName? 3 u = some "*errors.errorString") : u = 117 :=
 typeName_ptr_named (nm := "errors.errorString") (by rw [star]; kernel_rfl) (by kernel_rfl) (by decide) u (by rw [star]; exact h)
theorem laidQ {W : World} (h : laidMet Tryd.prog Rows.fnExactParsePuzzleRow.laid W) (hs : W.ShapedOpen Tryd.prog) : P.LaidQ W := by
 refine ⟨laidP h, ?_, ?_, ?_⟩
 ·have e : Tryd.prog.globalNamed "internal/bytealg.MaxLen" = some 0 := by kernel_rfl
  rw [e]
  exact Go.Proofs.cell_of_shapedOpen_int (zero := #[.int .i64 0]) (t := 3) (g := 0) hs (of_decide_eq_true (by kernel_rfl)) (by kernel_rfl) rfl (by kernel_rfl) (by kernel_rfl) Tryd.underlying3
 ·obtain ⟨a, x, hv, _⟩ := laid_sentinel (g := 1) (ti := 67) (tp := 117) (te := 119) (ts := 9) (laidMet.tail (laidMet.tail (laidMet.tail (laidMet.tail (laidMet.tail h))))) (by kernel_rfl) (by kernel_rfl) Tryd.underlying67 rowE Tryd.underlying117 Tryd.underlying119 rfl rfl Tryd.underlying9 (by kernel_rfl) (by kernel_rfl)
  exact ⟨_, _, hv⟩
 ·obtain ⟨a, x, hv, _⟩ := laid_sentinel (g := 2) (ti := 67) (tp := 117) (te := 119) (ts := 9) (laidMet.tail (laidMet.tail (laidMet.tail (laidMet.tail h)))) (by kernel_rfl) (by kernel_rfl) Tryd.underlying67 rowE Tryd.underlying117 Tryd.underlying119 rfl rfl Tryd.underlying9 (by kernel_rfl) (by kernel_rfl)
  exact ⟨_, _, hv⟩
set_option maxRecDepth 100000 in
theorem lifted (os : Os) (started : os.Started) (H : Type) (enc : TypeId × Value → H) :
  ReturnsInHanded {} Tryd.checked os 4 .any (fun w args => (Rows.fnExactParsePuzzleSpec.pre enc Tryd.prog Tryd.f4 Rows.fnExactParsePuzzleRow.domain false w args ∧ laidMet Tryd.prog Rows.fnExactParsePuzzleRow.laid w) ∧ sizedMet enc Tryd.prog Tryd.f4 (OpenSpec.ofChange Rows.fnExactParsePuzzleSpec) false w args) (Rows.fnExactParsePuzzleSpec.post enc Tryd.prog Tryd.f4 false true false false) := by
 refine of_change_shaped (C := Tryd.checked) (X := fun w _ => laidMet Tryd.prog Rows.fnExactParsePuzzleRow.laid w) (fun _ _ _ hh h => h.of_heap hh) own started (by kernel_rfl) Tryd.func4
  (ChangeSpec.witness_shaped (enc := enc) (C := Tryd.checked) (os := os) (X := fun w _ => laidMet Tryd.prog Rows.fnExactParsePuzzleRow.laid w) false (World.laidAll Tryd.prog os Rows.fnExactParsePuzzleRow.laid) #[.string ByteArray.empty] 8 (World.laidAll_os _ _ _) (World.shaped_of_ZipB (by kernel_rfl) (by kernel_rfl)) (by kernel_rfl) (by kernel_rfl) (by kernel_rfl) (door_met os _)) ?_
 intro W base args ds gs before hval0 hW hcnd hsz0 hL hshaped
 have hLP := laidQ hL hshaped
 have hsz : (DataW.weightsEach Tryd.prog (Tryd.f4.params.toList ++ Rows.fnExactParsePuzzleSpec.plain.varTypes Tryd.prog) (ds ++ gs)).all (· ≤ reachBytes) = true := hsz0
 have hval : ∀ (j : Nat) t v, Tryd.f4.params[j]? = some t → args[j]? = some v → Value.okWide Tryd.prog W .any base t v := hval0
 have hW' := hW
 obtain ⟨p, q, hA0, hV, rfl, hfz, hnd⟩ := hW
 have hA : DataW.TrodAll enc Tryd.prog W 0 (fun _ => true) true Tryd.f4.params.toList args.toList ds p := hA0
 rw [Tryd.params4] at hA hval hsz
 obtain ⟨v0, vs0, d0, ds0, p0, q0, hargs, rfl, rfl, h0, r0⟩ := trodAll_cons hA
 obtain ⟨rfl, rfl, rfl⟩ := trodAll_nil r0
 obtain rfl : args = #[v0] := by cases args; simp_all
 obtain ⟨rfl, rfl⟩ := trodVars_none hV
 obtain ⟨a0, rfl, rfl, rfl, y0⟩ := open_string Tryd.underlying9 (hval 0 9 v0 rfl rfl) h0
 have w0 : a0.size ≤ 140737488351232 := by
  have z := sized_string hsz (j := 0) (t := 9) rfl rfl
  rw [Array.length_toList] at z
  exact z
 clear hA0 hval0 hsz0 hsz
 obtain ⟨kk, hk⟩ := Pure.FnExactParsePuzzle a0 w0
 refine (P.laws_FnExactParsePuzzle.calls kk a0 true W hLP  hk rfl).mono fun e W' ⟨he, bel0⟩ => ?_
 have bel : Below W.heap.size W W' := bel0
 subst he
 exact ⟨_, rfl, _, _, _, [], _, [], hW', trodAll_mk1 (shut_bool Tryd.underlying4 _), (trodAll_cons_mk (shut_string Tryd.underlying9 y0) trodAll_mk0), rfl, bel.frame _, fun h => by cases h⟩
theorem over : Rows.fnExactParsePuzzleRow.holds Tryd.pinned (OpenSpec.ofChange Rows.fnExactParsePuzzleSpec) :=
 OpenClaim.holds_of_wide 4 Tryd.f4 rfl rfl rfl rfl rfl rfl rfl ⟨rfl, rfl, rfl, rfl, rfl⟩ rfl rfl rfl rfl rfl (by kernel_rfl) Tryd.func4 (by kernel_rfl)
  (of_decide_eq_true (by kernel_rfl)) (by unfold Func.isWrapper; first | (rw [if_pos (by decide +kernel)]; kernel_rfl) | (rw [if_neg (by decide +kernel)]; exact ⟨rfl, rfl⟩))
  (fun os started H enc _ => lifted os started H enc)
theorem proved : Rows.FnExactParsePuzzleSaid := over
theorem card : Rows.FnExactParsePuzzleCardSaid :=
 Claim7.holds_tied_plain_at .later [] [.data, .data, .data, .data, .sentinel, .sentinel, .pinned] true (true, "c57c423767fca313dfb4ff60c54dc7339dc632604b08e4f76446cb67c6bc4da9") true
  proved (fun _ h => by cases h) (by kernel_rfl) (fun _ h => by cases h) fnExactParsePuzzle_row_tie rfl ⟨rfl, rfl⟩ (by kernel_rfl) rfl
  (fun f fn hf hfn => by
   obtain rfl : f = 4 := Option.some.inj ((show Tryd.prog.funcNamed "loop.example/g01351/laws.FnExactParsePuzzle" = some 4 by kernel_rfl).symm.trans hf) |>.symm
   obtain rfl : fn = Tryd.f4 := (Option.some.inj (Tryd.func4.symm.trans hfn)).symm
   exact ⟨by kernel_rfl, fun j t ht => by
    rw [Tryd.params4] at ht
    have hm : t ∈ [9] := by simpa using Array.mem_of_getElem? ht
    have hall : ([9].all fun u => !Tryd.prog.wantsStandIn u) = true := by kernel_rfl
    exact (show Tryd.prog.wantsStandIn t = false by simpa using List.all_eq_true.1 hall t hm)⟩)
  (by kernel_rfl)
#print axioms card
end Go.Proofs.YthioojdannlhiaaDoor.fnExactParsePuzzle
namespace Go.Proofs.YthioojdannlhiaaDoor
/-- The row, under a short name, for the claim. -/
theorem fnExactParsePuzzle_holds : Rows.FnExactParsePuzzleCardSaid := fnExactParsePuzzle.card
end Go.Proofs.YthioojdannlhiaaDoor
