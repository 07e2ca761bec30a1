/- The law FnLaddersHidden is proved: a call of it returns true and leaves its arguments as they were; and what this needs. Every input that the given rows speak of; nothing else is asked. -/
import Derived.Test.YtopoopkobfdjjaaOFnLaddersHidden0
import Derived.Test.YtopoopkobfdjjaaOFnLaddersHidden1
import Derived.Test.YtopoopkobfdjjaaOFnLaddersHidden2
import Derived.Test.YtopoopkobfdjjaaOFnLaddersHidden3
namespace Go.Proofs.Ytopoopkobfdjjaa.P
open Go.RowKit Go.Proofs.YtopoopkobfdjjaaW.PrintWords Go.Proofs.YtopoopkobfdjjaaW.PrintLast Go.Proofs.YtopoopkobfdjjaaW.PrintMore
set_option linter.unusedVariables false
theorem zO4_0 {p : Prop} (h : p := by (with_reducible repeat (first | apply Kd.R_alloc | apply Kd.R_drewN | apply Kd.R_drew)); exact Kd.R_mono HO_856001.out (fun _ hk => ⟨hk.2, hk.1⟩)) : p := h
theorem zO4_1 {p : Prop} (h : p := by (with_reducible repeat (first | apply Kd.R_alloc | apply Kd.R_drewN | apply Kd.R_drew)); exact Kd.R_mono HO_862001.out (fun _ hk => ⟨hk.2, hk.1⟩)) : p := h
theorem zO4_2 {p : Prop} (h : p := by (with_reducible repeat (first | apply Kd.R_alloc | apply Kd.R_drewN | apply Kd.R_drew)); exact Kd.R_mono HO902.out (fun _ hk => ⟨hk.1.2, hk.2⟩)) : p := h
theorem zO4_3 {p : Prop} (h : p := by (try simp only [List.map_toArray, List.map_cons, List.map_nil]); first | done | rfl | (simp only [List.length_drop, List.length_take]; rfl)) : p := h
theorem zO4_4 {p : Prop} (h : p := by simp only [putAll, Act.put, List.setIfInBounds_toArray, List.set_cons_zero, List.set_cons_succ]) : p := h
theorem zO4_5 {p : Prop} (h : p := by first | (with_reducible assumption) | assumption) : p := h
end Go.Proofs.Ytopoopkobfdjjaa.P
namespace Go.Proofs.Ytopoopkobfdjjaa.P
open Go.RowKit Go.Proofs.YtopoopkobfdjjaaW.PrintWords Go.Proofs.YtopoopkobfdjjaaW.PrintLast Go.Proofs.YtopoopkobfdjjaaW.PrintMore
attribute [local go_sem] max2_int min2_int max_two min_two max_three min_three max_four min_four   -- for this text's walks alone
set_option linter.unusedVariables false
set_option linter.unusedSimpArgs false

attribute [local go_sem high] eqA39
/-! ### laws_FnLaddersHidden: function 3 -/
theorem zand {α β : Type} (a : α) (w : World) (f : α → World → Result β) : (Result.ok a w).andThen f = f a w := by
  have h : ∀ r : Result α, r = Result.ok a w → r.andThen f = f a w := by
    intro r hr
    subst hr; rfl
  exact h _ rfl
attribute [local go_sem high] zand
attribute [local simp high] zand
attribute [local go_sem] zset2
attribute [local go_sem high] zcellD zfrozenD
attribute [local simp high] zcellD zfrozenD
mutual
def laws_FnLaddersHidden.j0 : Nat → List Int → Int → Bool → Bool → Int → Int → Int → Int → List (S39) → Option (Bool)
  | 0, _, _, _, _, _, _, _, _, _ => none
  | k + 1, x1, x6, x9, x101, x761000, x761001, x761002, x767000, x767001 => if x101 = true then (some false) else (if x9 = true then ((impl_CrossHeight.f k x761000 x761001 x761002).bind fun bt774 => ((impl_DoesFit.f k 2 bt774.1 bt774.2.1 x761000 x761001 x761002).bind fun bt777 => ((impl_CrossPlace.f k x761000 x761001 x761002).bind fun bt779 => ((impl_DoesFit.f k 4 bt779.1 bt779.2.1 x761000 x761001 x761002).bind fun bt782 => ((impl_LengthsOf.f k x761000 x761001 x761002).bind fun bt784 => ((impl_DoesFit.f k 3 0 1 x761000 x761001 x761002).bind fun bt787 => ((impl_DoesFit.f k 3 1 1 x761000 x761001 x761002).bind fun bt789 => ((impl_IsPuzzle.f k x767000 x767001).bind fun t791 => (if t791 = true then (if (x767001.length : Int) = x6 then (if bt774.2.2 = true then (if bt777.2 = true then (if bt777.1 = true then (if bt779.2.2 = true then (if bt782.2 = true then (if bt782.1 = true then (if bt787.2 = true then (if bt789.2 = true then (if bt787.1 = true then (laws_FnLaddersHidden.j1 k x1 (bt784.2.2 != bt789.1) x761000 x761001 x761002 x767000 x767001) else (laws_FnLaddersHidden.j1 k x1 (bt784.2.2 != false) x761000 x761001 x761002 x767000 x767001)) else (laws_FnLaddersHidden.j1 k x1 true x761000 x761001 x761002 x767000 x767001)) else (laws_FnLaddersHidden.j1 k x1 true x761000 x761001 x761002 x767000 x767001)) else (laws_FnLaddersHidden.j1 k x1 true x761000 x761001 x761002 x767000 x767001)) else (laws_FnLaddersHidden.j1 k x1 true x761000 x761001 x761002 x767000 x767001)) else (laws_FnLaddersHidden.j1 k x1 true x761000 x761001 x761002 x767000 x767001)) else (laws_FnLaddersHidden.j1 k x1 true x761000 x761001 x761002 x767000 x767001)) else (laws_FnLaddersHidden.j1 k x1 true x761000 x761001 x761002 x767000 x767001)) else (laws_FnLaddersHidden.j1 k x1 true x761000 x761001 x761002 x767000 x767001)) else (laws_FnLaddersHidden.j1 k x1 true x761000 x761001 x761002 x767000 x767001)) else (laws_FnLaddersHidden.j1 k x1 true x761000 x761001 x761002 x767000 x767001)))))))))) else (laws_FnLaddersHidden.j3 k x1))
def laws_FnLaddersHidden.j3 : Nat → List Int → Option (Bool)
  | 0, _ => none
  | k + 1, x1 => (spec_DrawHarderPuzzle.f k x1).bind fun bt796 => ((impl_HarderPuzzle.f k bt796.1 bt796.2).bind fun bt801 => ((spec_HarderPuzzle.f k bt796.1 bt796.2).bind fun bt807 => ((impl_IsSolved.f k bt796.1 bt796.2).bind fun bt813 => (if (bt801.2.2 != bt807.2.2) = true then (laws_FnLaddersHidden.j4 k x1 bt801.2.2 true bt796.1 bt796.2 bt801.1 bt801.2.1) else ((laws_jPuzzle.f k bt801.1 bt801.2.1 bt807.1 bt807.2.1).bind fun t815 => (if t815 = true then (if bt813.2 = true then (laws_FnLaddersHidden.j4 k x1 bt801.2.2 (bt801.2.2 != bt813.1) bt796.1 bt796.2 bt801.1 bt801.2.1) else (laws_FnLaddersHidden.j4 k x1 bt801.2.2 (bt801.2.2 != false) bt796.1 bt796.2 bt801.1 bt801.2.1)) else (laws_FnLaddersHidden.j4 k x1 bt801.2.2 true bt796.1 bt796.2 bt801.1 bt801.2.1)))))))
def laws_FnLaddersHidden.j4 : Nat → List Int → Bool → Bool → Int → List (S39) → Int → List (S39) → Option (Bool)
  | 0, _, _, _, _, _, _, _ => none
  | k + 1, x1, x35, x252, x801000, x801001, x807000, x807001 => if x252 = true then (some false) else (if x35 = true then ((impl_Solutions.f k x801000 x801001).bind fun bt816 => ((impl_Solutions.f k x807000 x807001).bind fun bt820 => ((impl_NeedlessClues.f k x807000 x807001).bind fun bt824 => (if bt816.2 = true then (if bt820.2 = true then ((laws_jLadders.f k bt816.1 bt820.1).bind fun t828 => (if t828 = true then (if bt824.2 = true then (if (bt824.1.length : Int) = 0 then (if (x807001.length : Int) > (x801001.length : Int) then (some false) else (laws_FnLaddersHidden.j5 k x1)) else (some false)) else (some false)) else (some false))) else (some false)) else (some false))))) else (laws_FnLaddersHidden.j5 k x1))
def laws_FnLaddersHidden.j5 : Nat → List Int → Option (Bool)
  | 0, _ => none
  | k + 1, x1 => (spec_DrawAddClue.f k x1).bind fun bt829 => ((impl_AddClue.f k bt829.1 bt829.2.1 bt829.2.2.1 bt829.2.2.2.1 bt829.2.2.2.2).bind fun bt838 => ((spec_AddClue.f k bt829.1 bt829.2.1 bt829.2.2.1 bt829.2.2.2.1 bt829.2.2.2.2).bind fun bt844 => ((spec_DrawDropClue.f k x1).bind fun bt850 => ((impl_DropClue.f k bt850.1 bt850.2.1 bt850.2.2).bind fun bt856 => ((spec_DropClue.f k bt850.1 bt850.2.1 bt850.2.2).bind fun bt862 => ((spec_DrawDoesFit.f k x1).bind fun bt868 => ((impl_DoesFit.f k bt868.1 bt868.2.1 bt868.2.2.1 bt868.2.2.2.1 bt868.2.2.2.2.1 bt868.2.2.2.2.2).bind fun bt876 => ((spec_DoesFit.f k bt868.1 bt868.2.1 bt868.2.2.1 bt868.2.2.2.1 bt868.2.2.2.2.1 bt868.2.2.2.2.2).bind fun bt878 => ((spec_DrawIsClue.f k x1).bind fun bt880 => (if (bt838.2.2 != bt844.2.2) = true then (laws_FnLaddersHidden.j6 k bt838.2.2 bt850.2.2 bt856.2.2 true bt829.1 bt829.2.1 bt829.2.2.1 bt829.2.2.2.1 bt829.2.2.2.2 bt838.1 bt838.2.1 bt850.1 bt850.2.1 bt856.1 bt856.2.1) else ((laws_jPuzzle.f k bt838.1 bt838.2.1 bt844.1 bt844.2.1).bind fun t885 => (if t885 = true then (if (bt856.2.2 != bt862.2.2) = true then (laws_FnLaddersHidden.j6 k bt838.2.2 bt850.2.2 bt856.2.2 true bt829.1 bt829.2.1 bt829.2.2.1 bt829.2.2.2.1 bt829.2.2.2.2 bt838.1 bt838.2.1 bt850.1 bt850.2.1 bt856.1 bt856.2.1) else ((laws_jPuzzle.f k bt856.1 bt856.2.1 bt862.1 bt862.2.1).bind fun t886 => (if t886 = true then (if (bt876.2 != bt878.2) = true then (laws_FnLaddersHidden.j6 k bt838.2.2 bt850.2.2 bt856.2.2 true bt829.1 bt829.2.1 bt829.2.2.1 bt829.2.2.2.1 bt829.2.2.2.2 bt838.1 bt838.2.1 bt850.1 bt850.2.1 bt856.1 bt856.2.1) else (if (bt876.1 != bt878.1) = true then (laws_FnLaddersHidden.j6 k bt838.2.2 bt850.2.2 bt856.2.2 true bt829.1 bt829.2.1 bt829.2.2.1 bt829.2.2.2.1 bt829.2.2.2.2 bt838.1 bt838.2.1 bt850.1 bt850.2.1 bt856.1 bt856.2.1) else ((impl_IsClue.f k bt880.1 bt880.2.1 bt880.2.2.1 bt880.2.2.2).bind fun t887 => ((spec_IsClue.f k bt880.1 bt880.2.1 bt880.2.2.1 bt880.2.2.2).bind fun t888 => (if (t887 != t888) = true then (laws_FnLaddersHidden.j6 k bt838.2.2 bt850.2.2 bt856.2.2 true bt829.1 bt829.2.1 bt829.2.2.1 bt829.2.2.2.1 bt829.2.2.2.2 bt838.1 bt838.2.1 bt850.1 bt850.2.1 bt856.1 bt856.2.1) else (if bt876.2 = true then ((impl_IsClue.f k bt868.2.2.2.1 bt868.1 bt868.2.1 bt868.2.2.1).bind fun t889 => (laws_FnLaddersHidden.j6 k bt838.2.2 bt850.2.2 bt856.2.2 (!t889) bt829.1 bt829.2.1 bt829.2.2.1 bt829.2.2.2.1 bt829.2.2.2.2 bt838.1 bt838.2.1 bt850.1 bt850.2.1 bt856.1 bt856.2.1)) else (laws_FnLaddersHidden.j6 k bt838.2.2 bt850.2.2 bt856.2.2 false bt829.1 bt829.2.1 bt829.2.2.1 bt829.2.2.2.1 bt829.2.2.2.2 bt838.1 bt838.2.1 bt850.1 bt850.2.1 bt856.1 bt856.2.1))))))) else (laws_FnLaddersHidden.j6 k bt838.2.2 bt850.2.2 bt856.2.2 true bt829.1 bt829.2.1 bt829.2.2.1 bt829.2.2.2.1 bt829.2.2.2.2 bt838.1 bt838.2.1 bt850.1 bt850.2.1 bt856.1 bt856.2.1)))) else (laws_FnLaddersHidden.j6 k bt838.2.2 bt850.2.2 bt856.2.2 true bt829.1 bt829.2.1 bt829.2.2.1 bt829.2.2.2.1 bt829.2.2.2.2 bt838.1 bt838.2.1 bt850.1 bt850.2.1 bt856.1 bt856.2.1)))))))))))))
def laws_FnLaddersHidden.j6 : Nat → Bool → Int → Bool → Bool → Int → List (S39) → Int → Int → Int → Int → List (S39) → Int → List (S39) → Int → List (S39) → Option (Bool)
  | 0, _, _, _, _, _, _, _, _, _, _, _, _, _, _, _ => none
  | k + 1, x49, x53, x55, x403, x837000, x837001, x838000, x838001, x838002, x844000, x844001, x856000, x856001, x862000, x862001 => if x403 = true then (some false) else (if x49 = true then ((impl_DropClue.f k x844000 x844001 (x837001.length : Int)).bind fun bt890 => (if bt890.2.2 = true then ((laws_jPuzzle.f k bt890.1 bt890.2.1 x837000 x837001).bind fun t896 => (if t896 = true then (if 0 ≤ (x837001.length : Int) then (if (x837001.length : Int) < (x844001.length : Int) then (if (!(((rd_T39 x844001 (x837001.length : Int)).f0) == x838000) || (!(((rd_T39 x844001 (x837001.length : Int)).f1) == x838001) || (!(((rd_T39 x844001 (x837001.length : Int)).f2) == x838002)))) = true then (some false) else (laws_FnLaddersHidden.j7 k x53 x55 x856000 x856001 x862000 x862001)) else (none)) else (none)) else (some false))) else (some false))) else (laws_FnLaddersHidden.j7 k x53 x55 x856000 x856001 x862000 x862001))
def laws_FnLaddersHidden.j7 : Nat → Int → Bool → Int → List (S39) → Int → List (S39) → Option (Bool)
  | 0, _, _, _, _, _, _ => none
  | k + 1, x53, x55, x856000, x856001, x862000, x862001 => if x55 = true then (laws_FnLaddersHidden.j8 k x53 (x53 == (wrap64 ((x856001.length : Int) - 1))) x856000 x856001 x862000 x862001) else (laws_FnLaddersHidden.j8 k x53 false x856000 x856001 x862000 x862001)
def laws_FnLaddersHidden.j8 : Nat → Int → Bool → Int → List (S39) → Int → List (S39) → Option (Bool)
  | 0, _, _, _, _, _, _ => none
  | k + 1, x53, x440, x856000, x856001, x862000, x862001 => if x440 = true then (if 0 ≤ x53 then (if x53 < (x856001.length : Int) then ((impl_AddClue.f k x862000 x862001 ((rd_T39 x856001 x53).f0) ((rd_T39 x856001 x53).f1) ((rd_T39 x856001 x53).f2)).bind fun bt899 => (if bt899.2.2 = true then ((laws_jPuzzle.f k bt899.1 bt899.2.1 x856000 x856001).bind fun t905 => (some t905)) else (some false))) else (none)) else (none)) else (some true)
def laws_FnLaddersHidden.j1 : Nat → List Int → Bool → Int → Int → Int → Int → List (S39) → Option (Bool)
  | 0, _, _, _, _, _, _, _ => none
  | k + 1, x1, x198, x761000, x761001, x761002, x767000, x767001 => if x198 = true then (some false) else (laws_FnLaddersHidden.l0 k x1 x767001 (x767001.length : Int) 0 x761000 x761001 x761002)
def laws_FnLaddersHidden.l0 : Nat → List Int → List (S39) → Int → Int → Int → Int → Int → Option (Bool)
  | 0, _, _, _, _, _, _, _ => none
  | k + 1, x1, x200, x201, x202, x761000, x761001, x761002 => if x202 < x201 then (if 0 ≤ x202 then (if x202 < (x200.length : Int) then ((impl_DoesFit.f k ((rd_T39 x200 x202).f0) ((rd_T39 x200 x202).f1) ((rd_T39 x200 x202).f2) x761000 x761001 x761002).bind fun bt794 => (if bt794.2 = true then (if bt794.1 = true then (laws_FnLaddersHidden.l0 k x1 x200 x201 (wrap64 (x202 + 1)) x761000 x761001 x761002) else (some false)) else (some false))) else (none)) else (none)) else (laws_FnLaddersHidden.j3 k x1)
end
def laws_FnLaddersHidden.f (k : Nat) (l0 : List Int) (l1 : List Int) : Option (Bool) := (laws_big.f l0 l1).bind fun t754 => (if t754 = true then (some true) else ((spec_DrawMakePuzzle.f l0).bind fun bt755 => ((impl_MakePuzzle.f k bt755.1 bt755.2.1 bt755.2.2.1 bt755.2.2.2.1 bt755.2.2.2.2).bind fun bt761 => ((spec_MakePuzzle.f k bt755.1 bt755.2.1 bt755.2.2.1 bt755.2.2.2.1 bt755.2.2.2.2).bind fun bt767 => (if (bt761.2.2 != bt767.2.2) = true then (laws_FnLaddersHidden.j0 k l1 bt755.2.2.2.1 bt761.2.2 true bt755.1 bt755.2.1 bt755.2.2.1 bt761.1 bt761.2.1) else ((laws_jPuzzle.f k bt761.1 bt761.2.1 bt767.1 bt767.2.1).bind fun t773 => (laws_FnLaddersHidden.j0 k l1 bt755.2.2.2.1 bt761.2.2 (!t773) bt755.1 bt755.2.1 bt755.2.2.1 bt761.1 bt761.2.1)))))))
theorem laws_FnLaddersHidden.j0_true : ∀ k x0 x1 x2 x4 x5 x6 x7 x8 r, laws_FnLaddersHidden.j0 k x0 x1 x2 true x4 x5 x6 x7 x8 = some r → r = false := by
  intro k x0 x1 x2 x4 x5 x6 x7 x8 r h
  cases k with
  | zero => simp [laws_FnLaddersHidden.j0] at h
  | succ k => simp only [laws_FnLaddersHidden.j0, if_true] at h; exact (Option.some.inj h).symm
theorem laws_FnLaddersHidden.j4_true : ∀ k x0 x1 x3 x4 x5 x6 r, laws_FnLaddersHidden.j4 k x0 x1 true x3 x4 x5 x6 = some r → r = false := by
  intro k x0 x1 x3 x4 x5 x6 r h
  cases k with
  | zero => simp [laws_FnLaddersHidden.j4] at h
  | succ k => simp only [laws_FnLaddersHidden.j4, if_true] at h; exact (Option.some.inj h).symm
theorem laws_FnLaddersHidden.j6_true : ∀ k x0 x1 x2 x4 x5 x6 x7 x8 x9 x10 x11 x12 x13 x14 r, laws_FnLaddersHidden.j6 k x0 x1 x2 true x4 x5 x6 x7 x8 x9 x10 x11 x12 x13 x14 = some r → r = false := by
  intro k x0 x1 x2 x4 x5 x6 x7 x8 x9 x10 x11 x12 x13 x14 r h
  cases k with
  | zero => simp [laws_FnLaddersHidden.j6] at h
  | succ k => simp only [laws_FnLaddersHidden.j6, if_true] at h; exact (Option.some.inj h).symm
theorem laws_FnLaddersHidden.j1_true : ∀ k x0 x2 x3 x4 x5 x6 r, laws_FnLaddersHidden.j1 k x0 true x2 x3 x4 x5 x6 = some r → r = false := by
  intro k x0 x2 x3 x4 x5 x6 r h
  cases k with
  | zero => simp [laws_FnLaddersHidden.j1] at h
  | succ k => simp only [laws_FnLaddersHidden.j1, if_true] at h; exact (Option.some.inj h).symm
def laws_FnLaddersHidden.T47 : Bool × List (List Nat × List Nat) := (true, [([], []), ([], []), ([0, 1], [0, 1]), ([2], [2]), ([3], [3]), ([3], [3]), ([4, 5, 3, 3], [3, 4, 5]), ([6, 3], [3, 6]), ([3, 7], [3, 7]), ([8, 6], [8]), ([9], [9]), ([9], [9]), ([10, 11, 9], [9, 10, 11]), ([9, 12], [9, 12]), ([13, 9], [13]), ([14], [14]), ([14], [14]), ([15, 16, 14, 14], [14, 15, 16]), ([17, 14], [14, 17]), ([14, 18], [14, 18]), ([19, 17], [19]), ([20], [20]), ([20], [20]), ([21, 22, 20], [20, 21, 22]), ([20, 23], [20, 23]), ([24, 20], [24]), ([25], [25]), ([25], [25]), ([26, 27, 25], [25, 26, 27]), ([25, 28], [25, 28]), ([29, 25], [29]), ([30], [30]), ([30], [30]), ([31, 32, 30, 30], [30, 31, 32]), ([30], [30]), ([30], [30]), ([34, 35, 33, 30], [30, 34, 35]), ([33, 36, 30], [30, 33, 36]), ([30, 37], [30, 37]), ([38, 36], [38]), ([39], [39]), ([40, 39, 39], [39, 40]), ([41], [41]), ([42, 41], [41, 42]), ([41], [41]), ([43, 44, 41, 41], [41, 43, 44]), ([45, 41], [41, 45]), ([41, 46, 39], [39, 41, 46]), ([39, 47], [39, 47])])
def laws_FnLaddersHidden.B47 : List Nat := [0, 0, 3, 7, 15, 15, 63, 127, 255, 511, 1023, 1023, 4095, 8191, 16383, 32767, 32767, 131071, 262143, 524287, 1048575, 2097151, 2097151, 8388607, 16777215, 33554431, 67108863, 67108863, 268435455, 536870911, 1073741823, 2147483647, 2147483647, 8589934591, 2147483647, 2147483647, 68719476735, 137438953471, 274877906943, 549755813887, 1099511627775, 2199023255551, 4398046511103, 8796093022207, 4398046511103, 35184372088831, 70368744177663, 140737488355327, 281474976710655]
theorem laws_FnLaddersHidden.tab47 : rtab .any (opsOf Try.f3 47) = laws_FnLaddersHidden.T47 := by kernel_rfl
theorem laws_FnLaddersHidden.bits47 : waitsOk laws_FnLaddersHidden.T47.2 laws_FnLaddersHidden.B47 = true := by kernel_rfl
def laws_FnLaddersHidden.T51 : Bool × List (List Nat × List Nat) := (true, [([], []), ([0], [0]), ([1], [1]), ([2], [2]), ([2], [2]), ([3, 4, 2, 2], [2, 3, 4]), ([5, 2], [2, 5]), ([2, 6], [2, 6]), ([7, 5], [7]), ([8], [8]), ([9, 8], [8, 9]), ([8], [8]), ([11, 8], [8, 11]), ([12, 8], [8, 12]), ([10, 13, 8], [8, 10, 13]), ([14, 8], [8, 14]), ([8], [8]), ([15, 16, 8], [8, 15, 16]), ([8, 17], [8, 17])])
def laws_FnLaddersHidden.B51 : List Nat := [0, 1, 3, 7, 7, 31, 63, 127, 255, 511, 1023, 511, 2559, 6655, 16383, 32767, 511, 131071, 262143]
theorem laws_FnLaddersHidden.tab51 : rtab .any (opsOf Try.f3 51) = laws_FnLaddersHidden.T51 := by kernel_rfl
theorem laws_FnLaddersHidden.bits51 : waitsOk laws_FnLaddersHidden.T51.2 laws_FnLaddersHidden.B51 = true := by kernel_rfl
def laws_FnLaddersHidden.T54 : Bool × List (List Nat × List Nat) := (true, [([], []), ([], []), ([1], [1]), ([], []), ([2, 3], [2, 3]), ([4], [4]), ([0, 5], [0, 5]), ([6], [6]), ([7], [7]), ([7], [7]), ([], []), ([10, 8, 6, 0, 1, 2, 3, 4, 5, 6, 7, 8, 10], [8, 10]), ([9, 11, 0, 1, 2, 3, 4, 5, 6, 7, 8, 9, 10, 11], [9])])
def laws_FnLaddersHidden.B54 : List Nat := [0, 0, 2, 0, 14, 30, 63, 127, 255, 255, 0, 1535, 4095]
theorem laws_FnLaddersHidden.tab54 : rtab .any (opsOf Try.f3 54) = laws_FnLaddersHidden.T54 := by kernel_rfl
theorem laws_FnLaddersHidden.bits54 : waitsOk laws_FnLaddersHidden.T54.2 laws_FnLaddersHidden.B54 = true := by kernel_rfl
set_option maxHeartbeats 60000000 in
set_option maxRecDepth 100000 in
theorem laws_FnLaddersHidden.calls (k : Nat) (A0 : Option Addr) (c0 : Nat) (l0 : List Int) (A1 : Option Addr) (c1 : Nat) (l1 : List Int) (r : Bool) (w : World) (hr0 : Kd.C (Kd.int .u8) w A0 l0.length l0) (hc0 : l0.length ≤ c0) (hr1 : Kd.C (Kd.int .u8) w A1 l1.length l1) (hc1 : l1.length ≤ c1) (h : laws_FnLaddersHidden.f k l0 l1 = some r) (hr_ : r = true) :
    Calls Try.prog 3 #[.slice A0 l0.length c0, .slice A1 l1.length c1] w fun e w' => e = .returned (.bool r) ∧ Below w.heap.size w w' := by
  have HR_ := Aside0.mk hr_; clear hr_; have hu25 := Try.underlying25; have hu30 := Try.underlying30; have hu39 := Try.underlying39; have HR0 := Aside0.mk hr0; have HC0 := Aside0.mk hc0; clear hr0 hc0; have HR1 := Aside0.mk hr1; have HC1 := Aside0.mk hc1; clear hr1 hc1
  have HB := Aside0.mk (Below.refl w.heap.size w)
  have H : ((laws_big.f l0 l1).bind fun t754 => (if t754 = true then (some true) else ((spec_DrawMakePuzzle.f l0).bind fun bt755 => ((impl_MakePuzzle.f k bt755.1 bt755.2.1 bt755.2.2.1 bt755.2.2.2.1 bt755.2.2.2.2).bind fun bt761 => ((spec_MakePuzzle.f k bt755.1 bt755.2.1 bt755.2.2.1 bt755.2.2.2.1 bt755.2.2.2.2).bind fun bt767 => (if (bt761.2.2 != bt767.2.2) = true then (laws_FnLaddersHidden.j0 k l1 bt755.2.2.2.1 bt761.2.2 true bt755.1 bt755.2.1 bt755.2.2.1 bt761.1 bt761.2.1) else ((laws_jPuzzle.f k bt761.1 bt761.2.1 bt767.1 bt767.2.1).bind fun t773 => (laws_FnLaddersHidden.j0 k l1 bt755.2.2.2.1 bt761.2.2 (!t773) bt755.1 bt755.2.1 bt755.2.2.1 bt761.1 bt761.2.1)))))))) = some r := h
  clear h; replace H := Option.bind_eq_some_iff.mp H; obtain ⟨t754, A30, H⟩ := H; (try dsimp only at H); have A3 := Aside0.mk A30; clear A30
  by_cases c4 : t754 = true
  · subst c4
    rw [if_pos rfl] at H
    obtain rfl := Option.some.inj H
    as_aux_lemma =>
     go_enter Try.func3, Try.ntmps3
     go_wp2_with (first | ((with_reducible refine gate_callee (f := 4) rfl ?_); refine zG (some 72) Try.func4 #[.slice A0 l0.length c0, .slice A1 l1.length c1] ?_; (with_reducible refine (laws_big.calls _ _ l0 _ _ l1 true _ ?side1 ?side2 ?side3 ?side4 A3.out).mono ?_); (case side1 => repeat (first | exact HR0.out | (with_reducible refine Kd.C_alloc ?_ _) | (with_reducible refine Kd.C_drewN ?_ _) | (with_reducible refine Kd.C_drew ?_))); (case side2 => exact HC0.out); (case side3 => repeat (first | exact HR1.out | (with_reducible refine Kd.C_alloc ?_ _) | (with_reducible refine Kd.C_drewN ?_ _) | (with_reducible refine Kd.C_drew ?_))); (case side4 => exact HC1.out); rintro e w' ⟨rfl, ⟨nd, rfl⟩⟩; refine ⟨_, rfl, ?_⟩))
     go_ret
     exact ⟨zt, zy HB⟩
  replace c4 := Bool.eq_false_iff.mpr c4
  subst c4; rw [if_neg (show ¬ (false = true) by decide)] at H; replace H := Option.bind_eq_some_iff.mp H; obtain ⟨⟨t755, t756, t757, t758, t759⟩, A50, H⟩ := H; (try dsimp only at H); have A5 := Aside0.mk A50; clear A50; replace H := Option.bind_eq_some_iff.mp H; obtain ⟨⟨t761, t762, t765⟩, A60, H⟩ := H; (try dsimp only at H); have A6 := Aside0.mk A60; clear A60; replace H := Option.bind_eq_some_iff.mp H; obtain ⟨⟨t767, t768, t771⟩, A70, H⟩ := H; (try dsimp only at H); have A7 := Aside0.mk A70; clear A70; have HC8 := Aside0.mk H; clear H
  as_aux_lemma =>
   go_enter Try.func3, Try.ntmps3
   go_upto_region 6 with (first | ((with_reducible refine gate_callee (f := 4) rfl ?_); refine zG (some 72) Try.func4 #[.slice A0 l0.length c0, .slice A1 l1.length c1] ?_; (with_reducible refine (laws_big.calls _ _ l0 _ _ l1 false _ ?side1 ?side2 ?side3 ?side4 A3.out).mono ?_); (case side1 => repeat (first | exact HR0.out | (with_reducible refine Kd.C_alloc ?_ _) | (with_reducible refine Kd.C_drewN ?_ _) | (with_reducible refine Kd.C_drew ?_))); (case side2 => exact HC0.out); (case side3 => repeat (first | exact HR1.out | (with_reducible refine Kd.C_alloc ?_ _) | (with_reducible refine Kd.C_drewN ?_ _) | (with_reducible refine Kd.C_drew ?_))); (case side4 => exact HC1.out); rintro e w' ⟨rfl, ⟨nd, rfl⟩⟩; refine ⟨_, rfl, ?_⟩) | ((with_reducible refine gate_callee (f := 5) rfl ?_); refine zG (some 75) Try.func5 #[.slice A0 l0.length c0] ?_; (with_reducible refine (spec_DrawMakePuzzle.calls _ _ l0 t755 t756 t757 t758 t759 _ ?side1 ?side2 A5.out).mono ?_); (case side1 => repeat (first | exact HR0.out | (with_reducible refine Kd.C_alloc ?_ _) | (with_reducible refine Kd.C_drewN ?_ _) | (with_reducible refine Kd.C_drew ?_))); (case side2 => exact HC0.out); rintro e w9 ⟨rfl, hb⟩; refine ⟨_, rfl, ?_⟩; replace HB := zh HB hb; clear hb) | ((with_reducible refine gate_dst (N := 5) rfl ?_); (try (refine gate_guard (by rfl) ?_; dsimp only)); refine zE 5 #[.int .i64 0, .int .i64 0, .int .i64 0] 25 ?_; intro gb760 hg w10 hbox hb; have BK760 := Aside0.mk (hbox); have GW760 := zg HB hg; have GE760 := GW760; replace HB := zh HB hb; clear hb hbox hg; replace hz760 := zc3 BK760) | ((with_reducible refine gate_callee (f := 6) rfl ?_); refine zG (some 83) Try.func6 #[.agg #[.int .i64 t755, .int .i64 t756, .int .i64 t757], .int .i64 t758, .int .i64 t759] ?_; (with_reducible refine (impl_MakePuzzle.calls k t755 t756 t757 t758 t759 t761 t762 t765 _ A6.out).mono ?_); rintro e w12 ⟨v763, rfl, ho0, hb⟩; refine ⟨_, rfl, ?_⟩; have HO764 := Aside0.mk (Kd.R_lower ho0 (below_size (zy HB))); have n1_ := Aside0.mk (blk_below (g := gb760) (o := .cells #[.int .i64 t755, .int .i64 t756, .int .i64 t757] 25 (0, 0)) (zw BK760) hb); replace HB := zh HB hb; clear BK760; have BK760 := n1_; clear n1_; clear hb ho0) | ((with_reducible refine gate_dst (N := 8) rfl ?_); (try (refine gate_guard (by rfl) ?_; dsimp only)); refine zE 8 #[.int .i64 0, .slice none 0 0] 30 ?_; intro gb766 hg w13 hbox hb; have BK766 := Aside0.mk (hbox); have GW766 := zg HB hg; have GE766 := GW766; have NB760_766 := zl BK760 hg; have NB766_760 := zr BK760 hg; replace HO764 := zo HO764 hb; replace BK760 := zb BK760 hb; replace HB := zh HB hb; clear hb hbox hg; replace hNB766_760 := NB766_760.out; replace hNB760_766 := NB760_766.out; replace hz766 := zc2 BK766; obtain ⟨Ao16, co16, eo16⟩ := Kd.R_slice HO764.out; subst eo16; replace hz760 := zc3 BK760) | ((with_reducible refine gate_callee (f := 7) rfl ?_); refine zG (some 90) Try.func7 #[.agg #[.int .i64 t755, .int .i64 t756, .int .i64 t757], .int .i64 t758, .int .i64 t759] ?_; (with_reducible refine (spec_MakePuzzle.calls k t755 t756 t757 t758 t759 t767 t768 t771 _ A7.out).mono ?_); rintro e w18 ⟨v769, rfl, ho0, hb⟩; refine ⟨_, rfl, ?_⟩; have n0_ := Aside0.mk (Kd.R_elder' (by (with_reducible repeat (first | apply Kd.R_alloc | apply Kd.R_drewN | apply Kd.R_drew)); exact (Kd.R_mono (Kd.R_far (p := ⟨gb766, 1, none⟩) (Kd.R_far (p := ⟨gb766, 0, none⟩) (Kd.R_types HO764.out BK766.out (by decide)) (fun _ hk => hk.2) (.int .i64 t761)) (fun _ hk => hk.2) (.slice Ao16 t762.length co16)) (fun _ h_ => h_.1))) (Kd.R_base ho0) hb); have HO770 := Aside0.mk (Kd.R_lower (Kd.R_new' ho0 (Kd.R_lt (by (with_reducible repeat (first | apply Kd.R_alloc | apply Kd.R_drewN | apply Kd.R_drew)); exact (Kd.R_mono (Kd.R_far (p := ⟨gb766, 1, none⟩) (Kd.R_far (p := ⟨gb766, 0, none⟩) (Kd.R_types HO764.out BK766.out (by decide)) (fun _ hk => hk.2) (.int .i64 t761)) (fun _ hk => hk.2) (.slice Ao16 t762.length co16)) (fun _ h_ => h_.1))))) (below_size (zy HB))); have n3_ := Aside0.mk (blk_below (g := gb766) (o := .cells #[.int .i64 t761, .slice Ao16 t762.length co16] 30 (0, 0)) (zw BK766) hb); replace BK760 := zb BK760 hb; replace HB := zh HB hb; clear HO764; have HO764 := n0_; clear n0_; clear BK766; have BK766 := n3_; clear n3_; clear hb ho0) | ((with_reducible refine gate_dst (N := 10) rfl ?_); (try (refine gate_guard (by rfl) ?_; dsimp only)); refine zE 10 #[.int .i64 0, .slice none 0 0] 30 ?_; intro gb772 hg w19 hbox hb; have BK772 := Aside0.mk (hbox); have GW772 := zg HB hg; have GE772 := GW772; have NB760_772 := zl BK760 hg; have NB772_760 := zr BK760 hg; have NB766_772 := zl BK766 hg; have NB772_766 := zr BK766 hg; replace HO764 := zo HO764 hb; replace HO770 := zo HO770 hb; replace BK760 := zb BK760 hb; replace BK766 := zb BK766 hb; replace HB := zh HB hb; clear hb hbox hg; replace hNB772_760 := NB772_760.out; replace hNB760_772 := NB760_772.out; replace hNB772_766 := NB772_766.out; replace hNB766_772 := NB766_772.out; replace hz772 := zc2 BK772; obtain ⟨Ao23, co23, eo23⟩ := Kd.R_slice HO770.out; subst eo23))
   (try simp only [Act.put, List.setIfInBounds_toArray, List.set_cons_zero, List.set_cons_succ])
   go_cut [101] from 70 to 92 (fun v101 wc => ∃ (kq : Nat) (x101_7 : Bool), v101 = .bool x101_7 ∧ Aside0 (laws_FnLaddersHidden.j0 kq l1 t758 t765 x101_7 t755 t756 t757 t761 t762 = some r) ∧ Aside0 (kq ≤ k) ∧ Aside0 (Kd.R k39 39 wc w.heap.size (fun _ => True) (.slice Ao16 t762.length co16) t762) ∧ Aside0 (wc.heap[gb760]? = some (.cells #[.int .i64 t755, .int .i64 t756, .int .i64 t757] 25 (0, 0))) ∧ Aside0 (wc.heap[gb766]? = some (.cells #[.int .i64 t761, (.slice Ao16 t762.length co16)] 30 (0, 0))) ∧ Aside0 (Below w.heap.size w wc))
   case first =>
     have H := HC8.out; clear HC8
     by_cases c24 : (t765 != t771) = true
     · rw [if_pos c24] at H
       have c24b0 : (t765 != t771) = true := c24
       (try (have c24b1 : decide (t765 = t771) = false := by simpa using c24))
       (try (have c24b2 : (t765 == t771) = false := by simpa using c24))
       (try (have c24b3 : ¬ (t765 = t771) := by simpa using c24))
       clear c24
       (first | rw [c24b0] | (simp only [i64_w, i32_w]; rw [c24b0]) | skip)
       exact absurd (HR_.out.symm.trans (laws_FnLaddersHidden.j0_true _ _ _ _ _ _ _ _ _ _ H)) (by decide)
     rw [if_neg c24] at H
     have c24b0 : (t765 != t771) = false := by simpa using c24
     (try (have c24b1 : decide (t765 = t771) = true := by simpa using c24))
     (try (have c24b2 : (t765 == t771) = true := by simpa using c24))
     clear c24
     (first | rw [c24b0] | (simp only [i64_w, i32_w]; rw [c24b0]) | skip)
     replace H := Option.bind_eq_some_iff.mp H; obtain ⟨t773, A250, H⟩ := H
     replace H : (laws_FnLaddersHidden.j0 k l1 t758 t765 (!t773) t755 t756 t757 t761 t762) = some r := H
     have A25 := Aside0.mk A250; clear A250; have H' := Aside0.mk H; clear H
     replace hNB766_760 := NB766_760.out
     replace hNB760_766 := NB760_766.out
     replace hNB766_772 := NB766_772.out
     replace hNB772_766 := NB772_766.out
     replace hz766 := zc2 BK766
     replace hNB772_760 := NB772_760.out
     replace hNB760_772 := NB760_772.out
     replace hz772 := zc2 BK772
     as_aux_lemma =>
      go_wp2_with (first | (go_at_call 8; (with_reducible refine (laws_jPuzzle.calls k t761 _ _ t762 t767 _ _ t768 t773 _ ?side1 ?side2 ?side3 ?side4 A25.out).mono ?_); (case side1 => refine (Kd.R_reads' (e := 39) (base := w.heap.size) (ok := fun k_ => (True ∧ some k_ ≠ (.slice Ao23 t768.length co23 : Value).ownBlock)) (n := t762.length) (c := co16) ?_).2.2; exact (by (with_reducible repeat (first | apply Kd.R_alloc | apply Kd.R_drewN | apply Kd.R_drew)); exact (Kd.R_mono (Kd.R_far (p := ⟨gb772, 1, none⟩) (Kd.R_far (p := ⟨gb772, 0, none⟩) (Kd.R_types HO764.out BK772.out (by decide)) (fun _ hk => hk.2) (.int .i64 t767)) (fun _ hk => hk.2) (.slice Ao23 t768.length co23)) (fun _ h_ => h_.1)))); (case side2 => exact (Kd.R_reads' HO764.out).2.1); (case side3 => refine (Kd.R_reads' (e := 39) (base := w.heap.size) (ok := fun k_ => (True ∧ some k_ ≠ (.slice Ao16 t762.length co16 : Value).ownBlock)) (n := t768.length) (c := co23) ?_).2.2; exact (by (with_reducible repeat (first | apply Kd.R_alloc | apply Kd.R_drewN | apply Kd.R_drew)); exact (Kd.R_mono (Kd.R_far (p := ⟨gb772, 1, none⟩) (Kd.R_far (p := ⟨gb772, 0, none⟩) (Kd.R_types HO770.out BK772.out (by decide)) (fun _ hk => hk.2) (.int .i64 t767)) (fun _ hk => hk.2) (.slice Ao23 t768.length co23)) (fun _ h_ => h_.1)))); (case side4 => exact (Kd.R_reads' HO770.out).2.1); rintro e w31 ⟨rfl, hb⟩; have n0_ := Aside0.mk (Kd.R_below (by (with_reducible repeat (first | apply Kd.R_alloc | apply Kd.R_drewN | apply Kd.R_drew)); exact (Kd.R_mono (Kd.R_far (p := ⟨gb772, 1, none⟩) (Kd.R_far (p := ⟨gb772, 0, none⟩) (Kd.R_types HO764.out BK772.out (by decide)) (fun _ hk => hk.2) (.int .i64 t767)) (fun _ hk => hk.2) (.slice Ao23 t768.length co23)) (fun _ h_ => h_.1))) hb); have n1_ := Aside0.mk (Kd.R_below (by (with_reducible repeat (first | apply Kd.R_alloc | apply Kd.R_drewN | apply Kd.R_drew)); exact (Kd.R_mono (Kd.R_far (p := ⟨gb772, 1, none⟩) (Kd.R_far (p := ⟨gb772, 0, none⟩) (Kd.R_types HO770.out BK772.out (by decide)) (fun _ hk => hk.2) (.int .i64 t767)) (fun _ hk => hk.2) (.slice Ao23 t768.length co23)) (fun _ h_ => h_.1))) hb); have n4_ := Aside0.mk (blk_below (g := gb772) (o := .cells #[.int .i64 t767, .slice Ao23 t768.length co23] 30 (0, 0)) (zw BK772) hb); replace BK760 := zb BK760 hb; replace BK766 := zb BK766 hb; replace HB := zh HB hb; clear HO764; have HO764 := n0_; clear n0_; clear HO770; have HO770 := n1_; clear n1_; clear BK772; have BK772 := n4_; clear n4_; clear hb))
      go_meet
      case rel => exact ⟨_, (!t773), zu, H', ⟨by first | omega | exact Nat.le_refl _⟩, ⟨by (with_reducible repeat (first | apply Kd.R_alloc | apply Kd.R_drewN | apply Kd.R_drew)); exact Kd.R_mono HO764.out (fun _ hk => trivial)⟩, zk BK760, zk BK766, ⟨zy HB⟩⟩
   (try clear hz760); (try clear hz766); (try clear hz772)
   clear HC8
   obtain ⟨kq, x101_7, rfl, HA, HJ7, HO_767001, BK760, BK766, HB⟩ := hcut
   cases kq with
   | zero => exact absurd HA.out (by simp [laws_FnLaddersHidden.j0])
   | succ kj7 =>
     have H := HA.out; clear HA; simp only [laws_FnLaddersHidden.j0] at H
     by_cases c32 : x101_7 = true
     · subst c32
       rw [if_pos rfl] at H
       obtain rfl := Option.some.inj H
       exact absurd HR_.out (by decide)
     replace c32 := Bool.eq_false_iff.mpr c32
     subst c32; rw [if_neg (show ¬ (false = true) by decide)] at H; have HC33 := Aside0.mk H; clear H
     as_aux_lemma =>
      go_upto_if 102 with (fail)
      go_cut [] from 102 to 102 (fun wc => ∃ (kq : Nat), Aside0 (laws_FnLaddersHidden.j3 kq l1 = some r) ∧ Aside0 (kq ≤ kj7) ∧ Aside0 (Below w.heap.size w wc))
      case first =>
        have H := HC33.out; clear HC33
        by_cases c34 : t765 = true
        · subst c34
          rw [if_pos rfl] at H; replace H := Option.bind_eq_some_iff.mp H; obtain ⟨⟨t774, t775, t776⟩, A350, H⟩ := H; (try dsimp only at H); have A35 := Aside0.mk A350; clear A350; replace H := Option.bind_eq_some_iff.mp H; obtain ⟨⟨t777, t778⟩, A360, H⟩ := H; (try dsimp only at H); have A36 := Aside0.mk A360; clear A360; replace H := Option.bind_eq_some_iff.mp H; obtain ⟨⟨t779, t780, t781⟩, A370, H⟩ := H; (try dsimp only at H); have A37 := Aside0.mk A370; clear A370; replace H := Option.bind_eq_some_iff.mp H; obtain ⟨⟨t782, t783⟩, A380, H⟩ := H; (try dsimp only at H); have A38 := Aside0.mk A380; clear A380; replace H := Option.bind_eq_some_iff.mp H; obtain ⟨⟨t784, t785, t786⟩, A390, H⟩ := H; (try dsimp only at H); have A39 := Aside0.mk A390; clear A390; replace H := Option.bind_eq_some_iff.mp H; obtain ⟨⟨t787, t788⟩, A400, H⟩ := H; (try dsimp only at H); have A40 := Aside0.mk A400; clear A400; replace H := Option.bind_eq_some_iff.mp H; obtain ⟨⟨t789, t790⟩, A410, H⟩ := H; (try dsimp only at H); have A41 := Aside0.mk A410; clear A410; have HC42 := Aside0.mk H; clear H
          replace hNB760_766 := NB760_766.out
          replace hNB766_760 := NB766_760.out
          replace hz760 := zc3 BK760
          as_aux_lemma =>
           go_upto_region 16 with (first | ((with_reducible refine gate_callee (f := 9) rfl ?_); refine zG (some 105) Try.func9 #[.agg #[.int .i64 t755, .int .i64 t756, .int .i64 t757]] ?_; (with_reducible refine (impl_CrossHeight.calls kj7 t755 t756 t757 t774 t775 t776 _ A35.out).mono ?_); rintro e w45 ⟨rfl, hb⟩; refine ⟨_, rfl, ?_⟩; replace HO_767001 := zo HO_767001 hb; replace BK760 := zb BK760 hb; replace BK766 := zb BK766 hb; replace HB := zh HB hb; clear hb; replace hz760 := zc3 BK760) | ((with_reducible refine gate_callee (f := 10) rfl ?_); refine zG (some 114) Try.func10 #[.agg #[.int .i64 2, .int .i64 t774, .int .i64 t775], .agg #[.int .i64 t755, .int .i64 t756, .int .i64 t757]] ?_; (with_reducible refine (impl_DoesFit.calls kj7 2 t774 t775 t755 t756 t757 t777 t778 _ A36.out).mono ?_); rintro e w47 ⟨rfl, hb⟩; refine ⟨_, rfl, ?_⟩; replace HO_767001 := zo HO_767001 hb; replace BK760 := zb BK760 hb; replace BK766 := zb BK766 hb; replace HB := zh HB hb; clear hb; replace hz760 := zc3 BK760) | ((with_reducible refine gate_callee (f := 11) rfl ?_); refine zG (some 119) Try.func11 #[.agg #[.int .i64 t755, .int .i64 t756, .int .i64 t757]] ?_; (with_reducible refine (impl_CrossPlace.calls kj7 t755 t756 t757 t779 t780 t781 _ A37.out).mono ?_); rintro e w49 ⟨rfl, hb⟩; refine ⟨_, rfl, ?_⟩; replace HO_767001 := zo HO_767001 hb; replace BK760 := zb BK760 hb; replace BK766 := zb BK766 hb; replace HB := zh HB hb; clear hb; replace hz760 := zc3 BK760) | ((with_reducible refine gate_callee (f := 10) rfl ?_); refine zG (some 128) Try.func10 #[.agg #[.int .i64 4, .int .i64 t779, .int .i64 t780], .agg #[.int .i64 t755, .int .i64 t756, .int .i64 t757]] ?_; (with_reducible refine (impl_DoesFit.calls kj7 4 t779 t780 t755 t756 t757 t782 t783 _ A38.out).mono ?_); rintro e w51 ⟨rfl, hb⟩; refine ⟨_, rfl, ?_⟩; replace HO_767001 := zo HO_767001 hb; replace BK760 := zb BK760 hb; replace BK766 := zb BK766 hb; replace HB := zh HB hb; clear hb; replace hz760 := zc3 BK760) | ((with_reducible refine gate_callee (f := 12) rfl ?_); refine zG (some 133) Try.func12 #[.agg #[.int .i64 t755, .int .i64 t756, .int .i64 t757]] ?_; (with_reducible refine (impl_LengthsOf.calls kj7 t755 t756 t757 t784 t785 t786 _ A39.out).mono ?_); rintro e w53 ⟨rfl, hb⟩; refine ⟨_, rfl, ?_⟩; replace HO_767001 := zo HO_767001 hb; replace BK760 := zb BK760 hb; replace BK766 := zb BK766 hb; replace HB := zh HB hb; clear hb; replace hz760 := zc3 BK760) | ((with_reducible refine gate_callee (f := 10) rfl ?_); refine zG (some 140) Try.func10 #[.agg #[.int .i64 3, .int .i64 0, .int .i64 1], .agg #[.int .i64 t755, .int .i64 t756, .int .i64 t757]] ?_; (with_reducible refine (impl_DoesFit.calls kj7 3 0 1 t755 t756 t757 t787 t788 _ A40.out).mono ?_); rintro e w55 ⟨rfl, hb⟩; refine ⟨_, rfl, ?_⟩; replace HO_767001 := zo HO_767001 hb; replace BK760 := zb BK760 hb; replace BK766 := zb BK766 hb; replace HB := zh HB hb; clear hb; replace hz760 := zc3 BK760) | ((with_reducible refine gate_callee (f := 10) rfl ?_); refine zG (some 146) Try.func10 #[.agg #[.int .i64 3, .int .i64 1, .int .i64 1], .agg #[.int .i64 t755, .int .i64 t756, .int .i64 t757]] ?_; (with_reducible refine (impl_DoesFit.calls kj7 3 1 1 t755 t756 t757 t789 t790 _ A41.out).mono ?_); rintro e w57 ⟨rfl, hb⟩; refine ⟨_, rfl, ?_⟩; replace HO_767001 := zo HO_767001 hb; replace BK760 := zb BK760 hb; replace BK766 := zb BK766 hb; replace HB := zh HB hb; clear hb))
           (try simp only [Act.put, List.setIfInBounds_toArray, List.set_cons_zero, List.set_cons_succ])
           go_cut [198] from 102 to 148 (fun v198 wc => ∃ (kq : Nat) (x198_41 : Bool), v198 = .bool x198_41 ∧ Aside0 (laws_FnLaddersHidden.j1 kq l1 x198_41 t755 t756 t757 t761 t762 = some r) ∧ Aside0 (kq ≤ kj7) ∧ Aside0 (Kd.R k39 39 wc w.heap.size (fun _ => True) (.slice Ao16 t762.length co16) t762) ∧ Aside0 (wc.heap[gb760]? = some (.cells #[.int .i64 t755, .int .i64 t756, .int .i64 t757] 25 (0, 0))) ∧ Aside0 (wc.heap[gb766]? = some (.cells #[.int .i64 t761, (.slice Ao16 t762.length co16)] 30 (0, 0))) ∧ Aside0 (Below w.heap.size w wc))
           case first =>
             have H := HC42.out; clear HC42; replace H := Option.bind_eq_some_iff.mp H; obtain ⟨t791, A580, H⟩ := H; (try dsimp only at H); have A58 := Aside0.mk A580; clear A580
             by_cases c59 : t791 = true
             · subst c59
               rw [if_pos rfl] at H
               by_cases c60 : (t762.length : Int) = t758
               · rw [if_pos c60] at H
                 have c60b0 : ((t762.length : Int) == t758) = true := beq_iff_eq.mpr c60
                 have c60b1 : ((t762.length : Int) != t758) = false := bne_eq_false_iff_eq.mpr c60
                 clear c60
                 (first | rw [c60b0] | (simp only [i64_w, i32_w]; rw [c60b0]) | skip)
                 by_cases c61 : t776 = true
                 · subst c61
                   rw [if_pos rfl] at H
                   by_cases c62 : t778 = true
                   · subst c62
                     rw [if_pos rfl] at H
                     by_cases c63 : t777 = true
                     · subst c63
                       rw [if_pos rfl] at H
                       by_cases c64 : t781 = true
                       · subst c64
                         rw [if_pos rfl] at H
                         by_cases c65 : t783 = true
                         · subst c65
                           rw [if_pos rfl] at H
                           by_cases c66 : t782 = true
                           · subst c66
                             rw [if_pos rfl] at H
                             by_cases c67 : t788 = true
                             · subst c67
                               rw [if_pos rfl] at H
                               by_cases c68 : t790 = true
                               · subst c68
                                 rw [if_pos rfl] at H
                                 by_cases c69 : t787 = true
                                 · subst c69
                                   rw [if_pos rfl] at H; have H' := Aside0.mk H; clear H
                                   replace hNB766_760 := NB766_760.out
                                   replace hNB760_766 := NB760_766.out
                                   replace hz766 := zc2 BK766
                                   as_aux_lemma =>
                                    go_wp2_with (first | ((with_reducible refine gate_callee (f := 13) rfl ?_); refine zG (some 150) Try.func13 #[.agg #[.int .i64 t761, .slice Ao16 t762.length co16]] ?_; (with_reducible refine (impl_IsPuzzle.calls kj7 t761 _ _ t762 true _ ?side1 ?side2 A58.out).mono ?_); (case side1 => repeat (first | exact (Kd.R_reads' HO_767001.out).2.2 | (with_reducible refine Kd.C_alloc ?_ _) | (with_reducible refine Kd.C_drewN ?_ _) | (with_reducible refine Kd.C_drew ?_))); (case side2 => exact (Kd.R_reads' HO_767001.out).2.1); rintro e w72 ⟨rfl, hb⟩; refine ⟨_, rfl, ?_⟩; replace HO_767001 := zo HO_767001 hb; replace BK760 := zb BK760 hb; replace BK766 := zb BK766 hb; replace HB := zh HB hb; clear hb; replace hz766 := zc2 BK766))
                                    go_meet
                                    case rel => exact ⟨_, ((t786 != t789)), zu, H', ⟨by have := HJ7.out; first | omega | exact Nat.le_refl _⟩, zp HO_767001, zk BK760, zk BK766, ⟨zy HB⟩⟩
                                 replace c69 := Bool.eq_false_iff.mpr c69
                                 subst c69; rw [if_neg (show ¬ (false = true) by decide)] at H; have H' := Aside0.mk H; clear H
                                 replace hNB766_760 := NB766_760.out
                                 replace hNB760_766 := NB760_766.out
                                 replace hz766 := zc2 BK766
                                 as_aux_lemma =>
                                  go_wp2_with (first | ((with_reducible refine gate_callee (f := 13) rfl ?_); refine zG (some 150) Try.func13 #[.agg #[.int .i64 t761, .slice Ao16 t762.length co16]] ?_; (with_reducible refine (impl_IsPuzzle.calls kj7 t761 _ _ t762 true _ ?side1 ?side2 A58.out).mono ?_); (case side1 => repeat (first | exact (Kd.R_reads' HO_767001.out).2.2 | (with_reducible refine Kd.C_alloc ?_ _) | (with_reducible refine Kd.C_drewN ?_ _) | (with_reducible refine Kd.C_drew ?_))); (case side2 => exact (Kd.R_reads' HO_767001.out).2.1); rintro e w76 ⟨rfl, hb⟩; refine ⟨_, rfl, ?_⟩; replace HO_767001 := zo HO_767001 hb; replace BK760 := zb BK760 hb; replace BK766 := zb BK766 hb; replace HB := zh HB hb; clear hb; replace hz766 := zc2 BK766))
                                  go_meet
                                  case rel => exact ⟨_, ((t786 != false)), zu, H', ⟨by have := HJ7.out; first | omega | exact Nat.le_refl _⟩, zp HO_767001, zk BK760, zk BK766, ⟨zy HB⟩⟩
                               replace c68 := Bool.eq_false_iff.mpr c68
                               subst c68; rw [if_neg (show ¬ (false = true) by decide)] at H
                               exact absurd (HR_.out.symm.trans (laws_FnLaddersHidden.j1_true _ _ _ _ _ _ _ _ H)) (by decide)
                             replace c67 := Bool.eq_false_iff.mpr c67
                             subst c67; rw [if_neg (show ¬ (false = true) by decide)] at H
                             exact absurd (HR_.out.symm.trans (laws_FnLaddersHidden.j1_true _ _ _ _ _ _ _ _ H)) (by decide)
                           replace c66 := Bool.eq_false_iff.mpr c66
                           subst c66; rw [if_neg (show ¬ (false = true) by decide)] at H
                           exact absurd (HR_.out.symm.trans (laws_FnLaddersHidden.j1_true _ _ _ _ _ _ _ _ H)) (by decide)
                         replace c65 := Bool.eq_false_iff.mpr c65
                         subst c65; rw [if_neg (show ¬ (false = true) by decide)] at H
                         exact absurd (HR_.out.symm.trans (laws_FnLaddersHidden.j1_true _ _ _ _ _ _ _ _ H)) (by decide)
                       replace c64 := Bool.eq_false_iff.mpr c64
                       subst c64; rw [if_neg (show ¬ (false = true) by decide)] at H
                       exact absurd (HR_.out.symm.trans (laws_FnLaddersHidden.j1_true _ _ _ _ _ _ _ _ H)) (by decide)
                     replace c63 := Bool.eq_false_iff.mpr c63
                     subst c63; rw [if_neg (show ¬ (false = true) by decide)] at H
                     exact absurd (HR_.out.symm.trans (laws_FnLaddersHidden.j1_true _ _ _ _ _ _ _ _ H)) (by decide)
                   replace c62 := Bool.eq_false_iff.mpr c62
                   subst c62; rw [if_neg (show ¬ (false = true) by decide)] at H
                   exact absurd (HR_.out.symm.trans (laws_FnLaddersHidden.j1_true _ _ _ _ _ _ _ _ H)) (by decide)
                 replace c61 := Bool.eq_false_iff.mpr c61
                 subst c61; rw [if_neg (show ¬ (false = true) by decide)] at H
                 exact absurd (HR_.out.symm.trans (laws_FnLaddersHidden.j1_true _ _ _ _ _ _ _ _ H)) (by decide)
               rw [if_neg c60] at H
               have c60b0 : ((t762.length : Int) == t758) = false := beq_eq_false_iff_ne.mpr c60
               have c60b1 : ((t762.length : Int) != t758) = true := bne_iff_ne.mpr c60
               (first | rw [c60b0] | (simp only [i64_w, i32_w]; rw [c60b0]) | skip)
               exact absurd (HR_.out.symm.trans (laws_FnLaddersHidden.j1_true _ _ _ _ _ _ _ _ H)) (by decide)
             replace c59 := Bool.eq_false_iff.mpr c59
             subst c59; rw [if_neg (show ¬ (false = true) by decide)] at H
             exact absurd (HR_.out.symm.trans (laws_FnLaddersHidden.j1_true _ _ _ _ _ _ _ _ H)) (by decide)
           (try clear hz760); (try clear hz766); (try clear hz772)
           clear HC42
           obtain ⟨kq, x198_41, rfl, HA, HJ41, HO_767001, BK760, BK766, HB⟩ := hcut
           cases kq with
           | zero => exact absurd HA.out (by simp [laws_FnLaddersHidden.j1])
           | succ kj41 =>
             have H := HA.out; clear HA; simp only [laws_FnLaddersHidden.j1] at H
             by_cases c117 : x198_41 = true
             · subst c117
               rw [if_pos rfl] at H
               obtain rfl := Option.some.inj H
               exact absurd HR_.out (by decide)
             replace c117 := Bool.eq_false_iff.mpr c117
             subst c117; rw [if_neg (show ¬ (false = true) by decide)] at H; have H' := Aside0.mk H; clear H
             replace hNB766_760 := NB766_760.out
             replace hNB760_766 := NB760_766.out
             replace hz766 := zc2 BK766
             as_aux_lemma =>
              go_wp2
              go_loopg [202] kj41 (fun kq v202 w' => ∃ (x202_3 : Int), v202 = .int .i64 x202_3 ∧ Aside0 (laws_FnLaddersHidden.l0 kq l1 t762 (t762.length : Int) x202_3 t755 t756 t757 = some r) ∧ Aside0 (kq ≤ kj41) ∧ Aside0 (Kd.R k39 39 w' w.heap.size (fun _ => True) (.slice Ao16 t762.length co16) t762) ∧ Aside0 (w'.heap[gb760]? = some (.cells #[.int .i64 t755, .int .i64 t756, .int .i64 t757] 25 (0, 0))) ∧ Aside0 (Below w.heap.size w w'))
              case atStart => exact ⟨(0), zu, H', ⟨Nat.le_refl _⟩, zp HO_767001, zk BK760, ⟨zy HB⟩⟩
              case round =>
                clear H'
                obtain ⟨x202_3, rfl, HA, HK3, HO_200, BK760, HB⟩ := hrel
                cases gk with
                | zero => exact absurd HA.out (by simp [laws_FnLaddersHidden.l0])
                | succ k3 =>
                  have H := HA.out; clear HA; simp only [laws_FnLaddersHidden.l0] at H
                  by_cases c120 : x202_3 < (t762.length : Int)
                  · rw [if_pos c120] at H
                    have c120b0 : decide (x202_3 < (t762.length : Int)) = true := decide_eq_true c120; clear c120
                    by_cases c121 : 0 ≤ x202_3
                    · rw [if_pos c121] at H
                      have c121b0 : decide (0 ≤ x202_3) = true := decide_eq_true c121; clear c121
                      by_cases c122 : x202_3 < (t762.length : Int)
                      · rw [if_pos c122] at H
                        have c122b0 : decide (x202_3 < (t762.length : Int)) = true := decide_eq_true c122; clear c122; replace H := Option.bind_eq_some_iff.mp H; obtain ⟨⟨t794, t795⟩, A1230, H⟩ := H; (try dsimp only at H); have A123 := Aside0.mk A1230; clear A1230
                        by_cases c124 : t795 = true
                        · subst c124
                          rw [if_pos rfl] at H
                          by_cases c125 : t794 = true
                          · subst c125
                            rw [if_pos rfl] at H; have H' := Aside0.mk H; clear H
                            have p792 : 0 ≤ (x202_3 : Int) := of_decide_eq_true zO4_5
                            have q792 : x202_3 < (t762.length : Int) := of_decide_eq_true zO4_5
                            obtain ⟨ad792, e792, hx792_0, hx792_1, hx792_2⟩ := at_T39 (Kd.R_reads' HO_200.out).2.2 x202_3 p792 q792
                            cases e792; replace p792 := eq_true p792; replace q792 := eq_true q792
                            as_aux_lemma =>
                             go_wp2_with (first | ((with_reducible refine gate_dst (N := 30) rfl ?_); (try (refine gate_guard (by rfl) ?_; dsimp only)); refine zE 30 #[.int .i64 0, .int .i64 0, .int .i64 0] 39 ?_; intro gb793 hg w126 hbox hb; have n0_ := Aside0.mk (Kd.R_below (Kd.R_elderB (zs HO_200) gb793 (Nat.le_of_eq hg.symm)) hb); have BK793 := Aside0.mk (hbox); have GW793 := zg HB hg; have GE793 := GW793; have NB760_793 := zl BK760 hg; have NB793_760 := zr BK760 hg; replace BK760 := zb BK760 hb; replace HB := zh HB hb; clear HO_200; have HO_200 := n0_; clear n0_; clear hb hbox hg; replace hNB793_760 := NB793_760.out; replace hNB760_793 := NB760_793.out; replace hz793 := zc3 BK793; replace hz760 := zc3 BK760) | ((with_reducible refine gate_callee (f := 10) rfl ?_); refine zG (some 209) Try.func10 #[.agg #[.int .i64 ((rd_T39 t762 x202_3).f0), .int .i64 ((rd_T39 t762 x202_3).f1), .int .i64 ((rd_T39 t762 x202_3).f2)], .agg #[.int .i64 t755, .int .i64 t756, .int .i64 t757]] ?_; (with_reducible refine (impl_DoesFit.calls k3 ((rd_T39 t762 x202_3).f0) ((rd_T39 t762 x202_3).f1) ((rd_T39 t762 x202_3).f2) t755 t756 t757 true true _ A123.out).mono ?_); rintro e w130 ⟨rfl, hb⟩; refine ⟨_, rfl, ?_⟩; have n0_ := Aside0.mk (Kd.R_below (by (with_reducible repeat (first | apply Kd.R_alloc | apply Kd.R_drewN | apply Kd.R_drew)); exact (Kd.R_mono (Kd.R_far (p := ⟨gb793, 2, none⟩) (Kd.R_far (p := ⟨gb793, 1, none⟩) (Kd.R_far (p := ⟨gb793, 0, none⟩) (Kd.R_mono HO_200.out (fun k_ hk => (⟨hk, hk.2⟩ : _ ∧ k_ ≠ gb793))) (fun _ hk => hk.2) (.int .i64 ((rd_T39 t762 x202_3).f0))) (fun _ hk => hk.2) (.int .i64 ((rd_T39 t762 x202_3).f1))) (fun _ hk => hk.2) (.int .i64 ((rd_T39 t762 x202_3).f2))) (fun _ h_ => h_.1))) hb); have n2_ := Aside0.mk (blk_below (g := gb793) (o := .cells #[.int .i64 ((rd_T39 t762 x202_3).f0), .int .i64 ((rd_T39 t762 x202_3).f1), .int .i64 ((rd_T39 t762 x202_3).f2)] 39 (0, 0)) (zw BK793) hb); replace BK760 := zb BK760 hb; replace HB := zh HB hb; clear HO_200; have HO_200 := n0_; clear n0_; clear BK793; have BK793 := n2_; clear n2_; clear hb))
                             go_roundg k3
                             case measure => have := HJ7.out; have := HJ41.out; have := HK3.out; omega
                             case rel => exact ⟨(wrap64 (x202_3 + 1)), zu, H', ⟨by have := HJ7.out; have := HJ41.out; have := HK3.out; omega⟩, ⟨by (with_reducible repeat (first | apply Kd.R_alloc | apply Kd.R_drewN | apply Kd.R_drew)); exact Kd.R_mono HO_200.out (fun _ hk => trivial)⟩, zk BK760, ⟨zy HB⟩⟩
                          replace c125 := Bool.eq_false_iff.mpr c125
                          subst c125; rw [if_neg (show ¬ (false = true) by decide)] at H
                          obtain rfl := Option.some.inj H
                          exact absurd HR_.out (by decide)
                        replace c124 := Bool.eq_false_iff.mpr c124
                        subst c124; rw [if_neg (show ¬ (false = true) by decide)] at H
                        obtain rfl := Option.some.inj H
                        exact absurd HR_.out (by decide)
                      rw [if_neg c122] at H
                      exact absurd H (by simp)
                    rw [if_neg c121] at H
                    exact absurd H (by simp)
                  rw [if_neg c120] at H; have c120b0 : decide (x202_3 < (t762.length : Int)) = false := decide_eq_false c120; clear c120; have H' := Aside0.mk H; clear H
                  as_aux_lemma =>
                   go_wp2
                   go_meet
                   case rel => exact ⟨_, H', ⟨by have := HJ7.out; have := HJ41.out; have := HK3.out; first | omega | exact Nat.le_refl _⟩, ⟨zy HB⟩⟩
        replace c34 := Bool.eq_false_iff.mpr c34
        subst c34; rw [if_neg (show ¬ (false = true) by decide)] at H; have H' := Aside0.mk H; clear H
        as_aux_lemma =>
         go_wp2
         go_meet
         case rel => exact ⟨_, H', ⟨by have := HJ7.out; first | omega | exact Nat.le_refl _⟩, ⟨zy HB⟩⟩
      (try clear hz760); (try clear hz766); (try clear hz772); (try clear hz793)
      clear HC33
      obtain ⟨kq, HA, HJ32, HB⟩ := hcut
      cases kq with
      | zero => exact absurd HA.out (by simp [laws_FnLaddersHidden.j3])
      | succ kj32 =>
        have H := HA.out; clear HA; simp only [laws_FnLaddersHidden.j3] at H; replace H := Option.bind_eq_some_iff.mp H; obtain ⟨⟨t796, t797⟩, A1310, H⟩ := H; (try dsimp only at H); have A131 := Aside0.mk A1310; clear A1310; replace H := Option.bind_eq_some_iff.mp H; obtain ⟨⟨t801, t802, t805⟩, A1320, H⟩ := H; (try dsimp only at H); have A132 := Aside0.mk A1320; clear A1320; replace H := Option.bind_eq_some_iff.mp H; obtain ⟨⟨t807, t808, t811⟩, A1330, H⟩ := H; (try dsimp only at H); have A133 := Aside0.mk A1330; clear A1330; replace H := Option.bind_eq_some_iff.mp H; obtain ⟨⟨t813, t814⟩, A1340, H⟩ := H; (try dsimp only at H); have A134 := Aside0.mk A1340; clear A1340; have HC135 := Aside0.mk H; clear H
        as_aux_lemma =>
         go_upto_region 29 with (first | ((with_reducible refine gate_callee (f := 14) rfl ?_); refine zG (some 220) Try.func14 #[.slice A1 l1.length c1] ?_; (with_reducible refine (spec_DrawHarderPuzzle.calls kj32 _ _ l1 t796 t797 _ ?side1 ?side2 A131.out).mono ?_); (case side1 => repeat (first | exact (Kd.C_below HR1.out HB.out) | (with_reducible refine Kd.C_alloc ?_ _) | (with_reducible refine Kd.C_drewN ?_ _) | (with_reducible refine Kd.C_drew ?_))); (case side2 => exact HC1.out); rintro e w136 ⟨v798, rfl, ho0, hb⟩; refine ⟨_, rfl, ?_⟩; have HO799 := Aside0.mk (Kd.R_lower ho0 (below_size (zy HB))); replace HB := zh HB hb; clear hb ho0) | ((with_reducible refine gate_dst (N := 33) rfl ?_); (try (refine gate_guard (by rfl) ?_; dsimp only)); refine zE 33 #[.int .i64 0, .slice none 0 0] 30 ?_; intro gb800 hg w137 hbox hb; have BK800 := Aside0.mk (hbox); have GW800 := zg HB hg; have GE800 := GW800; replace HO799 := zo HO799 hb; replace HB := zh HB hb; clear hb hbox hg; replace hz800 := zc2 BK800; obtain ⟨Ao139, co139, eo139⟩ := Kd.R_slice HO799.out; subst eo139) | ((with_reducible refine gate_callee (f := 15) rfl ?_); refine zG (some 223) Try.func15 #[.agg #[.int .i64 t796, .slice Ao139 t797.length co139]] ?_; (with_reducible refine (impl_HarderPuzzle.calls kj32 t796 _ _ t797 t801 t802 t805 _ ?side1 ?side2 A132.out).mono ?_); (case side1 => refine (Kd.R_reads' (e := 39) (base := w.heap.size) (ok := fun k_ => True) (n := t797.length) (c := co139) ?_).2.2; exact (by (with_reducible repeat (first | apply Kd.R_alloc | apply Kd.R_drewN | apply Kd.R_drew)); exact (Kd.R_mono (Kd.R_far (p := ⟨gb800, 1, none⟩) (Kd.R_far (p := ⟨gb800, 0, none⟩) (Kd.R_types HO799.out BK800.out (by decide)) (fun _ hk => hk.2) (.int .i64 t796)) (fun _ hk => hk.2) (.slice Ao139 t797.length co139)) (fun _ h_ => h_.1)))); (case side2 => exact (Kd.R_reads' HO799.out).2.1); rintro e w140 ⟨v803, rfl, ho0, hb⟩; refine ⟨_, rfl, ?_⟩; have n0_ := Aside0.mk (Kd.R_elder' (by (with_reducible repeat (first | apply Kd.R_alloc | apply Kd.R_drewN | apply Kd.R_drew)); exact (Kd.R_mono (Kd.R_far (p := ⟨gb800, 1, none⟩) (Kd.R_far (p := ⟨gb800, 0, none⟩) (Kd.R_types HO799.out BK800.out (by decide)) (fun _ hk => hk.2) (.int .i64 t796)) (fun _ hk => hk.2) (.slice Ao139 t797.length co139)) (fun _ h_ => h_.1))) (Kd.R_base ho0) hb); have HO804 := Aside0.mk (Kd.R_lower (Kd.R_new' ho0 (Kd.R_lt (by (with_reducible repeat (first | apply Kd.R_alloc | apply Kd.R_drewN | apply Kd.R_drew)); exact (Kd.R_mono (Kd.R_far (p := ⟨gb800, 1, none⟩) (Kd.R_far (p := ⟨gb800, 0, none⟩) (Kd.R_types HO799.out BK800.out (by decide)) (fun _ hk => hk.2) (.int .i64 t796)) (fun _ hk => hk.2) (.slice Ao139 t797.length co139)) (fun _ h_ => h_.1))))) (below_size (zy HB))); have n2_ := Aside0.mk (blk_below (g := gb800) (o := .cells #[.int .i64 t796, .slice Ao139 t797.length co139] 30 (0, 0)) (zw BK800) hb); replace HB := zh HB hb; clear HO799; have HO799 := n0_; clear n0_; clear BK800; have BK800 := n2_; clear n2_; clear hb ho0) | ((with_reducible refine gate_dst (N := 34) rfl ?_); (try (refine gate_guard (by rfl) ?_; dsimp only)); refine zE 34 #[.int .i64 0, .slice none 0 0] 30 ?_; intro gb806 hg w141 hbox hb; have BK806 := Aside0.mk (hbox); have GW806 := zg HB hg; have GE806 := GW806; have NB800_806 := zl BK800 hg; have NB806_800 := zr BK800 hg; replace HO799 := zo HO799 hb; replace HO804 := zo HO804 hb; replace BK800 := zb BK800 hb; replace HB := zh HB hb; clear hb hbox hg; replace hNB806_800 := NB806_800.out; replace hNB800_806 := NB800_806.out; replace hz806 := zc2 BK806; obtain ⟨Ao144, co144, eo144⟩ := Kd.R_slice HO804.out; subst eo144; replace hz800 := zc2 BK800) | ((with_reducible refine gate_callee (f := 16) rfl ?_); refine zG (some 228) Try.func16 #[.agg #[.int .i64 t796, .slice Ao139 t797.length co139]] ?_; (with_reducible refine (spec_HarderPuzzle.calls kj32 t796 _ _ t797 t807 t808 t811 _ ?side1 ?side2 A133.out).mono ?_); (case side1 => refine (Kd.R_reads' (e := 39) (base := w.heap.size) (ok := fun k_ => (True ∧ some k_ ≠ (.slice Ao144 t802.length co144 : Value).ownBlock)) (n := t797.length) (c := co139) ?_).2.2; exact (by (with_reducible repeat (first | apply Kd.R_alloc | apply Kd.R_drewN | apply Kd.R_drew)); exact (Kd.R_mono (Kd.R_far (p := ⟨gb806, 1, none⟩) (Kd.R_far (p := ⟨gb806, 0, none⟩) (Kd.R_types HO799.out BK806.out (by decide)) (fun _ hk => hk.2) (.int .i64 t801)) (fun _ hk => hk.2) (.slice Ao144 t802.length co144)) (fun _ h_ => h_.1)))); (case side2 => exact (Kd.R_reads' HO799.out).2.1); rintro e w146 ⟨v809, rfl, ho0, hb⟩; refine ⟨_, rfl, ?_⟩; have n0_ := Aside0.mk (Kd.R_elder' (by (with_reducible repeat (first | apply Kd.R_alloc | apply Kd.R_drewN | apply Kd.R_drew)); exact (Kd.R_mono (Kd.R_far (p := ⟨gb806, 1, none⟩) (Kd.R_far (p := ⟨gb806, 0, none⟩) (Kd.R_types HO799.out BK806.out (by decide)) (fun _ hk => hk.2) (.int .i64 t801)) (fun _ hk => hk.2) (.slice Ao144 t802.length co144)) (fun _ h_ => h_.1))) (Kd.R_base ho0) hb); have n1_ := Aside0.mk (Kd.R_elder' (by (with_reducible repeat (first | apply Kd.R_alloc | apply Kd.R_drewN | apply Kd.R_drew)); exact (Kd.R_mono (Kd.R_far (p := ⟨gb806, 1, none⟩) (Kd.R_far (p := ⟨gb806, 0, none⟩) (Kd.R_types HO804.out BK806.out (by decide)) (fun _ hk => hk.2) (.int .i64 t801)) (fun _ hk => hk.2) (.slice Ao144 t802.length co144)) (fun _ h_ => h_.1))) (Kd.R_base ho0) hb); have HO810 := Aside0.mk (Kd.R_lower (Kd.R_new' (Kd.R_new' ho0 (Kd.R_lt (by (with_reducible repeat (first | apply Kd.R_alloc | apply Kd.R_drewN | apply Kd.R_drew)); exact (Kd.R_mono (Kd.R_far (p := ⟨gb806, 1, none⟩) (Kd.R_far (p := ⟨gb806, 0, none⟩) (Kd.R_types HO799.out BK806.out (by decide)) (fun _ hk => hk.2) (.int .i64 t801)) (fun _ hk => hk.2) (.slice Ao144 t802.length co144)) (fun _ h_ => h_.1))))) (Kd.R_lt (by (with_reducible repeat (first | apply Kd.R_alloc | apply Kd.R_drewN | apply Kd.R_drew)); exact (Kd.R_mono (Kd.R_far (p := ⟨gb806, 1, none⟩) (Kd.R_far (p := ⟨gb806, 0, none⟩) (Kd.R_types HO804.out BK806.out (by decide)) (fun _ hk => hk.2) (.int .i64 t801)) (fun _ hk => hk.2) (.slice Ao144 t802.length co144)) (fun _ h_ => h_.1))))) (below_size (zy HB))); have n4_ := Aside0.mk (blk_below (g := gb806) (o := .cells #[.int .i64 t801, .slice Ao144 t802.length co144] 30 (0, 0)) (zw BK806) hb); replace BK800 := zb BK800 hb; replace HB := zh HB hb; clear HO799; have HO799 := n0_; clear n0_; clear HO804; have HO804 := n1_; clear n1_; clear BK806; have BK806 := n4_; clear n4_; clear hb ho0) | ((with_reducible refine gate_dst (N := 36) rfl ?_); (try (refine gate_guard (by rfl) ?_; dsimp only)); refine zE 36 #[.int .i64 0, .slice none 0 0] 30 ?_; intro gb812 hg w147 hbox hb; have BK812 := Aside0.mk (hbox); have GW812 := zg HB hg; have GE812 := GW812; have NB800_812 := zl BK800 hg; have NB812_800 := zr BK800 hg; have NB806_812 := zl BK806 hg; have NB812_806 := zr BK806 hg; replace HO799 := zo HO799 hb; replace HO804 := zo HO804 hb; replace HO810 := zo HO810 hb; replace BK800 := zb BK800 hb; replace BK806 := zb BK806 hb; replace HB := zh HB hb; clear hb hbox hg; replace hNB812_800 := NB812_800.out; replace hNB800_812 := NB800_812.out; replace hNB812_806 := NB812_806.out; replace hNB806_812 := NB806_812.out; replace hz812 := zc2 BK812; obtain ⟨Ao151, co151, eo151⟩ := Kd.R_slice HO810.out; subst eo151; replace hz800 := zc2 BK800) | ((with_reducible refine gate_callee (f := 17) rfl ?_); refine zG (some 233) Try.func17 #[.agg #[.int .i64 t796, .slice Ao139 t797.length co139]] ?_; (with_reducible refine (impl_IsSolved.calls kj32 t796 _ _ t797 t813 t814 _ ?side1 ?side2 A134.out).mono ?_); (case side1 => refine (Kd.R_reads' (e := 39) (base := w.heap.size) (ok := fun k_ => ((True ∧ some k_ ≠ (.slice Ao144 t802.length co144 : Value).ownBlock) ∧ some k_ ≠ (.slice Ao151 t808.length co151 : Value).ownBlock)) (n := t797.length) (c := co139) ?_).2.2; exact (by (with_reducible repeat (first | apply Kd.R_alloc | apply Kd.R_drewN | apply Kd.R_drew)); exact (Kd.R_mono (Kd.R_far (p := ⟨gb812, 1, none⟩) (Kd.R_far (p := ⟨gb812, 0, none⟩) (Kd.R_types HO799.out BK812.out (by decide)) (fun _ hk => hk.2) (.int .i64 t807)) (fun _ hk => hk.2) (.slice Ao151 t808.length co151)) (fun _ h_ => h_.1)))); (case side2 => exact (Kd.R_reads' HO799.out).2.1); rintro e w153 ⟨rfl, hb⟩; refine ⟨_, rfl, ?_⟩; have n0_ := Aside0.mk (Kd.R_below (by (with_reducible repeat (first | apply Kd.R_alloc | apply Kd.R_drewN | apply Kd.R_drew)); exact (Kd.R_mono (Kd.R_far (p := ⟨gb812, 1, none⟩) (Kd.R_far (p := ⟨gb812, 0, none⟩) (Kd.R_types HO799.out BK812.out (by decide)) (fun _ hk => hk.2) (.int .i64 t807)) (fun _ hk => hk.2) (.slice Ao151 t808.length co151)) (fun _ h_ => h_.1))) hb); have n1_ := Aside0.mk (Kd.R_below (by (with_reducible repeat (first | apply Kd.R_alloc | apply Kd.R_drewN | apply Kd.R_drew)); exact (Kd.R_mono (Kd.R_far (p := ⟨gb812, 1, none⟩) (Kd.R_far (p := ⟨gb812, 0, none⟩) (Kd.R_types HO804.out BK812.out (by decide)) (fun _ hk => hk.2) (.int .i64 t807)) (fun _ hk => hk.2) (.slice Ao151 t808.length co151)) (fun _ h_ => h_.1))) hb); have n2_ := Aside0.mk (Kd.R_below (by (with_reducible repeat (first | apply Kd.R_alloc | apply Kd.R_drewN | apply Kd.R_drew)); exact (Kd.R_mono (Kd.R_far (p := ⟨gb812, 1, none⟩) (Kd.R_far (p := ⟨gb812, 0, none⟩) (Kd.R_types HO810.out BK812.out (by decide)) (fun _ hk => hk.2) (.int .i64 t807)) (fun _ hk => hk.2) (.slice Ao151 t808.length co151)) (fun _ h_ => h_.1))) hb); have n5_ := Aside0.mk (blk_below (g := gb812) (o := .cells #[.int .i64 t807, .slice Ao151 t808.length co151] 30 (0, 0)) (zw BK812) hb); replace BK800 := zb BK800 hb; replace BK806 := zb BK806 hb; replace HB := zh HB hb; clear HO799; have HO799 := n0_; clear n0_; clear HO804; have HO804 := n1_; clear n1_; clear HO810; have HO810 := n2_; clear n2_; clear BK812; have BK812 := n5_; clear n5_; clear hb))
         (try simp only [Act.put, List.setIfInBounds_toArray, List.set_cons_zero, List.set_cons_succ])
         go_cut [252] from 219 to 235 (fun v252 wc => ∃ (kq : Nat) (x252_134 : Bool), v252 = .bool x252_134 ∧ Aside0 (laws_FnLaddersHidden.j4 kq l1 t805 x252_134 t796 t797 t801 t802 = some r) ∧ Aside0 (kq ≤ kj32) ∧ Aside0 (Kd.R k39 39 wc w.heap.size (fun k_ => some k_ ≠ ((.slice Ao144 t802.length co144) : Value).ownBlock) (.slice Ao139 t797.length co139) t797) ∧ Aside0 (Kd.R k39 39 wc w.heap.size (fun k_ => some k_ ≠ ((.slice Ao139 t797.length co139) : Value).ownBlock) (.slice Ao144 t802.length co144) t802) ∧ Aside0 (wc.heap[gb800]? = some (.cells #[.int .i64 t796, (.slice Ao139 t797.length co139)] 30 (0, 0))) ∧ Aside0 (wc.heap[gb806]? = some (.cells #[.int .i64 t801, (.slice Ao144 t802.length co144)] 30 (0, 0))) ∧ Aside0 (Below w.heap.size w wc))
         case first =>
           have H := HC135.out; clear HC135
           by_cases c154 : (t805 != t811) = true
           · rw [if_pos c154] at H
             have c154b0 : (t805 != t811) = true := c154
             (try (have c154b1 : decide (t805 = t811) = false := by simpa using c154))
             (try (have c154b2 : (t805 == t811) = false := by simpa using c154))
             (try (have c154b3 : ¬ (t805 = t811) := by simpa using c154))
             clear c154
             (first | rw [c154b0] | (simp only [i64_w, i32_w]; rw [c154b0]) | skip)
             exact absurd (HR_.out.symm.trans (laws_FnLaddersHidden.j4_true _ _ _ _ _ _ _ _ H)) (by decide)
           rw [if_neg c154] at H
           have c154b0 : (t805 != t811) = false := by simpa using c154
           (try (have c154b1 : decide (t805 = t811) = true := by simpa using c154))
           (try (have c154b2 : (t805 == t811) = true := by simpa using c154))
           clear c154
           (first | rw [c154b0] | (simp only [i64_w, i32_w]; rw [c154b0]) | skip)
           replace H := Option.bind_eq_some_iff.mp H; obtain ⟨t815, A1550, H⟩ := H; (try dsimp only at H); have A155 := Aside0.mk A1550; clear A1550
           by_cases c156 : t815 = true
           · subst c156
             rw [if_pos rfl] at H
             by_cases c157 : t814 = true
             · subst c157
               rw [if_pos rfl] at H; have H' := Aside0.mk H; clear H
               replace hNB806_800 := NB806_800.out
               replace hNB800_806 := NB800_806.out
               replace hNB806_812 := NB806_812.out
               replace hNB812_806 := NB812_806.out
               replace hz806 := zc2 BK806
               replace hNB812_800 := NB812_800.out
               replace hNB800_812 := NB800_812.out
               replace hz812 := zc2 BK812
               as_aux_lemma =>
                go_wp2_with (first | (go_at_call 8; (with_reducible refine (laws_jPuzzle.calls kj32 t801 _ _ t802 t807 _ _ t808 true _ ?side1 ?side2 ?side3 ?side4 A155.out).mono ?_); (case side1 => repeat (first | exact (Kd.R_reads' HO804.out).2.2 | (with_reducible refine Kd.C_alloc ?_ _) | (with_reducible refine Kd.C_drewN ?_ _) | (with_reducible refine Kd.C_drew ?_))); (case side2 => exact (Kd.R_reads' HO804.out).2.1); (case side3 => repeat (first | exact (Kd.R_reads' HO810.out).2.2 | (with_reducible refine Kd.C_alloc ?_ _) | (with_reducible refine Kd.C_drewN ?_ _) | (with_reducible refine Kd.C_drew ?_))); (case side4 => exact (Kd.R_reads' HO810.out).2.1); rintro e w163 ⟨rfl, hb⟩; replace HO799 := zo HO799 hb; replace HO804 := zo HO804 hb; replace HO810 := zo HO810 hb; replace BK800 := zb BK800 hb; replace BK806 := zb BK806 hb; replace BK812 := zb BK812 hb; replace HB := zh HB hb; clear hb))
                go_meet
                case rel => exact ⟨_, ((t805 != t813)), zu, H', ⟨by have := HJ7.out; have := HJ32.out; first | omega | exact Nat.le_refl _⟩, ⟨by (with_reducible repeat (first | apply Kd.R_alloc | apply Kd.R_drewN | apply Kd.R_drew)); exact Kd.R_mono HO799.out (fun _ hk => hk.1.2)⟩, ⟨by (with_reducible repeat (first | apply Kd.R_alloc | apply Kd.R_drewN | apply Kd.R_drew)); exact Kd.R_mono HO804.out (fun _ hk => hk.1.2)⟩, zk BK800, zk BK806, ⟨zy HB⟩⟩
             replace c157 := Bool.eq_false_iff.mpr c157
             subst c157; rw [if_neg (show ¬ (false = true) by decide)] at H; have H' := Aside0.mk H; clear H
             replace hNB806_800 := NB806_800.out
             replace hNB800_806 := NB800_806.out
             replace hNB806_812 := NB806_812.out
             replace hNB812_806 := NB812_806.out
             replace hz806 := zc2 BK806
             replace hNB812_800 := NB812_800.out
             replace hNB800_812 := NB800_812.out
             replace hz812 := zc2 BK812
             as_aux_lemma =>
              go_wp2_with (first | (go_at_call 8; (with_reducible refine (laws_jPuzzle.calls kj32 t801 _ _ t802 t807 _ _ t808 true _ ?side1 ?side2 ?side3 ?side4 A155.out).mono ?_); (case side1 => repeat (first | exact (Kd.R_reads' HO804.out).2.2 | (with_reducible refine Kd.C_alloc ?_ _) | (with_reducible refine Kd.C_drewN ?_ _) | (with_reducible refine Kd.C_drew ?_))); (case side2 => exact (Kd.R_reads' HO804.out).2.1); (case side3 => repeat (first | exact (Kd.R_reads' HO810.out).2.2 | (with_reducible refine Kd.C_alloc ?_ _) | (with_reducible refine Kd.C_drewN ?_ _) | (with_reducible refine Kd.C_drew ?_))); (case side4 => exact (Kd.R_reads' HO810.out).2.1); rintro e w169 ⟨rfl, hb⟩; replace HO799 := zo HO799 hb; replace HO804 := zo HO804 hb; replace HO810 := zo HO810 hb; replace BK800 := zb BK800 hb; replace BK806 := zb BK806 hb; replace BK812 := zb BK812 hb; replace HB := zh HB hb; clear hb))
              go_meet
              case rel => exact ⟨_, ((t805 != false)), zu, H', ⟨by have := HJ7.out; have := HJ32.out; first | omega | exact Nat.le_refl _⟩, ⟨by (with_reducible repeat (first | apply Kd.R_alloc | apply Kd.R_drewN | apply Kd.R_drew)); exact Kd.R_mono HO799.out (fun _ hk => hk.1.2)⟩, ⟨by (with_reducible repeat (first | apply Kd.R_alloc | apply Kd.R_drewN | apply Kd.R_drew)); exact Kd.R_mono HO804.out (fun _ hk => hk.1.2)⟩, zk BK800, zk BK806, ⟨zy HB⟩⟩
           replace c156 := Bool.eq_false_iff.mpr c156
           subst c156; rw [if_neg (show ¬ (false = true) by decide)] at H
           exact absurd (HR_.out.symm.trans (laws_FnLaddersHidden.j4_true _ _ _ _ _ _ _ _ H)) (by decide)
         (try clear hz760); (try clear hz766); (try clear hz772); (try clear hz793); (try clear hz800); (try clear hz806); (try clear hz812)
         clear HC135
         obtain ⟨kq, x252_134, rfl, HA, HJ134, HO_801001, HO_807001, BK800, BK806, HB⟩ := hcut
         cases kq with
         | zero => exact absurd HA.out (by simp [laws_FnLaddersHidden.j4])
         | succ kj134 =>
           have H := HA.out; clear HA; simp only [laws_FnLaddersHidden.j4] at H
           by_cases c176 : x252_134 = true
           · subst c176
             rw [if_pos rfl] at H
             obtain rfl := Option.some.inj H
             exact absurd HR_.out (by decide)
           replace c176 := Bool.eq_false_iff.mpr c176
           subst c176; rw [if_neg (show ¬ (false = true) by decide)] at H; have HC177 := Aside0.mk H; clear H
           as_aux_lemma =>
            go_upto_if 253 with (fail)
            go_cut [] from 253 to 253 (fun wc => ∃ (kq : Nat), Aside0 (laws_FnLaddersHidden.j5 kq l1 = some r) ∧ Aside0 (kq ≤ kj134) ∧ Aside0 (Below w.heap.size w wc))
            case first =>
              have H := HC177.out; clear HC177
              by_cases c178 : t805 = true
              · subst c178
                rw [if_pos rfl] at H; replace H := Option.bind_eq_some_iff.mp H; obtain ⟨⟨t816, t819⟩, A1790, H⟩ := H; (try dsimp only at H); have A179 := Aside0.mk A1790; clear A1790; replace H := Option.bind_eq_some_iff.mp H; obtain ⟨⟨t820, t823⟩, A1800, H⟩ := H; (try dsimp only at H); have A180 := Aside0.mk A1800; clear A1800; replace H := Option.bind_eq_some_iff.mp H; obtain ⟨⟨t824, t827⟩, A1810, H⟩ := H; (try dsimp only at H); have A181 := Aside0.mk A1810; clear A1810
                by_cases c182 : t819 = true
                · subst c182
                  rw [if_pos rfl] at H
                  by_cases c183 : t823 = true
                  · subst c183
                    rw [if_pos rfl] at H; replace H := Option.bind_eq_some_iff.mp H; obtain ⟨t828, A1840, H⟩ := H; (try dsimp only at H); have A184 := Aside0.mk A1840; clear A1840
                    by_cases c185 : t828 = true
                    · subst c185
                      rw [if_pos rfl] at H
                      by_cases c186 : t827 = true
                      · subst c186
                        rw [if_pos rfl] at H
                        by_cases c187 : (t824.length : Int) = 0
                        · rw [if_pos c187] at H
                          have c187b0 : ((t824.length : Int) == 0) = true := beq_iff_eq.mpr c187
                          have c187b1 : ((t824.length : Int) != 0) = false := bne_eq_false_iff_eq.mpr c187
                          clear c187
                          (first | rw [c187b0] | (simp only [i64_w, i32_w]; rw [c187b0]) | skip)
                          by_cases c188 : (t802.length : Int) > (t797.length : Int)
                          · rw [if_pos c188] at H
                            have c188b0 : decide ((t797.length : Int) < (t802.length : Int)) = true := decide_eq_true c188
                            have c188b1 : decide (t797.length < t802.length) = true := decide_eq_true (Int.ofNat_lt.mp c188)
                            clear c188
                            obtain rfl := Option.some.inj H
                            exact absurd HR_.out (by decide)
                          rw [if_neg c188] at H; have c188b0 : decide ((t797.length : Int) < (t802.length : Int)) = false := decide_eq_false c188
                          have c188b1 : decide (t797.length < t802.length) = false := decide_eq_false (fun h => c188 (Int.ofNat_lt.mpr h))
                          clear c188; have H' := Aside0.mk H; clear H
                          replace hNB800_806 := NB800_806.out
                          replace hNB806_800 := NB806_800.out
                          replace hz800 := zc2 BK800
                          as_aux_lemma =>
                           go_wp2_with (first | ((with_reducible refine gate_callee (f := 18) rfl ?_); refine zG (some 256) Try.func18 #[.agg #[.int .i64 t796, .slice Ao139 t797.length co139]] ?_; (with_reducible refine (impl_Solutions.calls kj134 t796 _ _ t797 t816 true _ ?side1 ?side2 A179.out).mono ?_); (case side1 => repeat (first | exact (Kd.R_reads' HO_801001.out).2.2 | (with_reducible refine Kd.C_alloc ?_ _) | (with_reducible refine Kd.C_drewN ?_ _) | (with_reducible refine Kd.C_drew ?_))); (case side2 => exact (Kd.R_reads' HO_801001.out).2.1); rintro e w191 ⟨v817, rfl, ho0, hb⟩; refine ⟨_, rfl, ?_⟩; have HO818 := Aside0.mk (Kd.R_lower ho0 (below_size (zy HB))); replace HO_801001 := zo HO_801001 hb; replace HO_807001 := zo HO_807001 hb; replace BK800 := zb BK800 hb; replace BK806 := zb BK806 hb; replace HB := zh HB hb; clear hb ho0; replace hz806 := zc2 BK806) | ((with_reducible refine gate_callee (f := 18) rfl ?_); refine zG (some 261) Try.func18 #[.agg #[.int .i64 t801, .slice Ao144 t802.length co144]] ?_; (with_reducible refine (impl_Solutions.calls kj134 t801 _ _ t802 t820 true _ ?side1 ?side2 A180.out).mono ?_); (case side1 => repeat (first | exact (Kd.R_reads' HO_807001.out).2.2 | (with_reducible refine Kd.C_alloc ?_ _) | (with_reducible refine Kd.C_drewN ?_ _) | (with_reducible refine Kd.C_drew ?_))); (case side2 => exact (Kd.R_reads' HO_807001.out).2.1); rintro e w193 ⟨v821, rfl, ho0, hb⟩; refine ⟨_, rfl, ?_⟩; have n2_ := Aside0.mk (Kd.R_elder' (zs HO818) (Kd.R_base ho0) hb); have HO822 := Aside0.mk (Kd.R_lower (Kd.R_new' ho0 (Kd.R_lt (zs HO818))) (below_size (zy HB))); replace HO_801001 := zo HO_801001 hb; replace HO_807001 := zo HO_807001 hb; replace BK800 := zb BK800 hb; replace BK806 := zb BK806 hb; replace HB := zh HB hb; clear HO818; have HO818 := n2_; clear n2_; clear hb ho0; replace hz806 := zc2 BK806) | ((with_reducible refine gate_callee (f := 19) rfl ?_); refine zG (some 266) Try.func19 #[.agg #[.int .i64 t801, .slice Ao144 t802.length co144]] ?_; (with_reducible refine (impl_NeedlessClues.calls kj134 t801 _ _ t802 t824 true _ ?side1 ?side2 A181.out).mono ?_); (case side1 => repeat (first | exact (Kd.R_reads' HO_807001.out).2.2 | (with_reducible refine Kd.C_alloc ?_ _) | (with_reducible refine Kd.C_drewN ?_ _) | (with_reducible refine Kd.C_drew ?_))); (case side2 => exact (Kd.R_reads' HO_807001.out).2.1); rintro e w195 ⟨v825, rfl, ho0, hb⟩; refine ⟨_, rfl, ?_⟩; have HO826 := Aside0.mk (Kd.R_lower ho0 (below_size (zy HB))); replace HO_801001 := zo HO_801001 hb; replace HO_807001 := zo HO_807001 hb; replace HO818 := zo HO818 hb; replace HO822 := zo HO822 hb; replace BK800 := zb BK800 hb; replace BK806 := zb BK806 hb; replace HB := zh HB hb; clear hb ho0; obtain ⟨Ao196, co196, eo196⟩ := Kd.R_slice HO818.out; subst eo196; obtain ⟨Ao197, co197, eo197⟩ := Kd.R_slice HO822.out; subst eo197) | (go_at_call 20; (with_reducible refine (laws_jLadders.calls kj134 _ _ t816 _ _ t820 true _ ?side1 ?side2 ?side3 ?side4 A184.out).mono ?_); (case side1 => repeat (first | exact (Kd.R_reads' HO818.out).2.2 | (with_reducible refine Kd.C_alloc ?_ _) | (with_reducible refine Kd.C_drewN ?_ _) | (with_reducible refine Kd.C_drew ?_))); (case side2 => exact (Kd.R_reads' HO818.out).2.1); (case side3 => repeat (first | exact (Kd.R_reads' HO822.out).2.2 | (with_reducible refine Kd.C_alloc ?_ _) | (with_reducible refine Kd.C_drewN ?_ _) | (with_reducible refine Kd.C_drew ?_))); (case side4 => exact (Kd.R_reads' HO822.out).2.1); rintro e w' ⟨rfl, ⟨nd, rfl⟩⟩; obtain ⟨Ao198, co198, eo198⟩ := Kd.R_slice HO826.out; subst eo198; replace hz806 := zc2 BK806; replace hz800 := zc2 BK800))
                           go_meet
                           case rel => exact ⟨_, H', ⟨by have := HJ7.out; have := HJ32.out; have := HJ134.out; first | omega | exact Nat.le_refl _⟩, ⟨zy HB⟩⟩
                        rw [if_neg c187] at H
                        have c187b0 : ((t824.length : Int) == 0) = false := beq_eq_false_iff_ne.mpr c187
                        have c187b1 : ((t824.length : Int) != 0) = true := bne_iff_ne.mpr c187
                        have c187b2 : ¬ (t824 = []) := fun h_ => c187 (by rw [h_]; rfl)
                        (first | rw [c187b0] | (simp only [i64_w, i32_w]; rw [c187b0]) | skip)
                        obtain rfl := Option.some.inj H
                        exact absurd HR_.out (by decide)
                      replace c186 := Bool.eq_false_iff.mpr c186
                      subst c186; rw [if_neg (show ¬ (false = true) by decide)] at H
                      obtain rfl := Option.some.inj H
                      exact absurd HR_.out (by decide)
                    replace c185 := Bool.eq_false_iff.mpr c185
                    subst c185; rw [if_neg (show ¬ (false = true) by decide)] at H
                    obtain rfl := Option.some.inj H
                    exact absurd HR_.out (by decide)
                  replace c183 := Bool.eq_false_iff.mpr c183
                  subst c183; rw [if_neg (show ¬ (false = true) by decide)] at H
                  obtain rfl := Option.some.inj H
                  exact absurd HR_.out (by decide)
                replace c182 := Bool.eq_false_iff.mpr c182
                subst c182; rw [if_neg (show ¬ (false = true) by decide)] at H
                obtain rfl := Option.some.inj H
                exact absurd HR_.out (by decide)
              replace c178 := Bool.eq_false_iff.mpr c178
              subst c178; rw [if_neg (show ¬ (false = true) by decide)] at H; have H' := Aside0.mk H; clear H
              as_aux_lemma =>
               go_wp2
               go_meet
               case rel => exact ⟨_, H', ⟨by have := HJ7.out; have := HJ32.out; have := HJ134.out; first | omega | exact Nat.le_refl _⟩, ⟨zy HB⟩⟩
            (try clear hz760); (try clear hz766); (try clear hz772); (try clear hz793); (try clear hz800); (try clear hz806); (try clear hz812)
            clear HC177
            obtain ⟨kq, HA, HJ176, HB⟩ := hcut
            cases kq with
            | zero => exact absurd HA.out (by simp [laws_FnLaddersHidden.j5])
            | succ kj176 =>
              have H := HA.out; clear HA; simp only [laws_FnLaddersHidden.j5] at H; replace H := Option.bind_eq_some_iff.mp H; obtain ⟨⟨t829, t830, t833, t834, t835⟩, A2010, H⟩ := H; (try dsimp only at H); have A201 := Aside0.mk A2010; clear A2010; replace H := Option.bind_eq_some_iff.mp H; obtain ⟨⟨t838, t839, t842⟩, A2020, H⟩ := H; (try dsimp only at H); have A202 := Aside0.mk A2020; clear A2020; replace H := Option.bind_eq_some_iff.mp H; obtain ⟨⟨t844, t845, t848⟩, A2030, H⟩ := H; (try dsimp only at H); have A203 := Aside0.mk A2030; clear A2030; replace H := Option.bind_eq_some_iff.mp H; obtain ⟨⟨t850, t851, t854⟩, A2040, H⟩ := H; (try dsimp only at H); have A204 := Aside0.mk A2040; clear A2040; replace H := Option.bind_eq_some_iff.mp H; obtain ⟨⟨t856, t857, t860⟩, A2050, H⟩ := H; (try dsimp only at H); have A205 := Aside0.mk A2050; clear A2050; replace H := Option.bind_eq_some_iff.mp H; obtain ⟨⟨t862, t863, t866⟩, A2060, H⟩ := H; (try dsimp only at H); have A206 := Aside0.mk A2060; clear A2060; replace H := Option.bind_eq_some_iff.mp H; obtain ⟨⟨t868, t869, t870, t871, t872, t873⟩, A2070, H⟩ := H; (try dsimp only at H); have A207 := Aside0.mk A2070; clear A2070; replace H := Option.bind_eq_some_iff.mp H; obtain ⟨⟨t876, t877⟩, A2080, H⟩ := H; (try dsimp only at H); have A208 := Aside0.mk A2080; clear A2080; replace H := Option.bind_eq_some_iff.mp H; obtain ⟨⟨t878, t879⟩, A2090, H⟩ := H; (try dsimp only at H); have A209 := Aside0.mk A2090; clear A2090; replace H := Option.bind_eq_some_iff.mp H; obtain ⟨⟨t880, t881, t882, t883⟩, A2100, H⟩ := H; (try dsimp only at H); have A210 := Aside0.mk A2100; clear A2100; have HC211 := Aside0.mk H; clear H
              as_aux_lemma =>
               go_upto_region 47 with (first | ((with_reducible refine gate_callee (f := 21) rfl ?_); refine zG (some 301) Try.func21 #[.slice A1 l1.length c1] ?_; (with_reducible refine (spec_DrawAddClue.calls kj176 _ _ l1 t829 t830 t833 t834 t835 _ ?side1 ?side2 A201.out).mono ?_); (case side1 => repeat (first | exact (Kd.C_below HR1.out HB.out) | (with_reducible refine Kd.C_alloc ?_ _) | (with_reducible refine Kd.C_drewN ?_ _) | (with_reducible refine Kd.C_drew ?_))); (case side2 => exact HC1.out); rintro e w212 ⟨v831, rfl, ho0, hb⟩; refine ⟨_, rfl, ?_⟩; have HO832 := Aside0.mk (Kd.R_lower ho0 (below_size (zy HB))); replace HB := zh HB hb; clear hb ho0) | ((with_reducible refine gate_dst (N := 46) rfl ?_); (try (refine gate_guard (by rfl) ?_; dsimp only)); refine zE 46 #[.int .i64 0, .slice none 0 0] 30 ?_; intro gb836 hg w213 hbox hb; have BK836 := Aside0.mk (hbox); have GW836 := zg HB hg; have GE836 := GW836; replace HO832 := zo HO832 hb; replace HB := zh HB hb; clear hb hbox hg) | ((with_reducible refine gate_dst (N := 47) rfl ?_); (try (refine gate_guard (by rfl) ?_; dsimp only)); refine zE 47 #[.int .i64 0, .int .i64 0, .int .i64 0] 39 ?_; intro gb837 hg w214 hbox hb; have n0_ := Aside0.mk (Kd.R_below (Kd.R_elderB (zs HO832) gb837 (Nat.le_of_eq hg.symm)) hb); have BK837 := Aside0.mk (hbox); have GW837 := zg HB hg; have GE837 := GW837; have NB836_837 := zl BK836 hg; have NB837_836 := zr BK836 hg; replace BK836 := zb BK836 hb; replace HB := zh HB hb; clear HO832; have HO832 := n0_; clear n0_; clear hb hbox hg; replace hNB836_837 := NB836_837.out; replace hNB837_836 := NB837_836.out; replace hz836 := zc2 BK836; obtain ⟨Ao217, co217, eo217⟩ := Kd.R_slice HO832.out; subst eo217; replace hz837 := zc3 BK837) | ((with_reducible refine gate_callee (f := 22) rfl ?_); refine zG (some 307) Try.func22 #[.agg #[.int .i64 t829, .slice Ao217 t830.length co217], .agg #[.int .i64 t833, .int .i64 t834, .int .i64 t835]] ?_; (with_reducible refine (impl_AddClue.calls kj176 t829 _ _ t830 t833 t834 t835 t838 t839 t842 _ ?side1 ?side2 A202.out).mono ?_); (case side1 => refine (Kd.R_reads' (e := 39) (base := w.heap.size) (ok := fun k_ => (True ∧ k_ ≠ gb837)) (n := t830.length) (c := co217) ?_).2.2; exact (by (with_reducible repeat (first | apply Kd.R_alloc | apply Kd.R_drewN | apply Kd.R_drew)); exact (Kd.R_mono (Kd.R_mono (Kd.R_far (p := ⟨gb837, 2, none⟩) (Kd.R_far (p := ⟨gb837, 1, none⟩) (Kd.R_far (p := ⟨gb837, 0, none⟩) (Kd.R_far (p := ⟨gb836, 1, none⟩) (Kd.R_far (p := ⟨gb836, 0, none⟩) (Kd.R_mono (Kd.R_types HO832.out BK836.out (by decide)) (fun k_ hk => (⟨hk, hk.1.2⟩ : _ ∧ k_ ≠ gb837))) (fun _ hk => hk.1.2) (.int .i64 t829)) (fun _ hk => hk.1.2) (.slice Ao217 t830.length co217)) (fun _ hk => hk.2) (.int .i64 t833)) (fun _ hk => hk.2) (.int .i64 t834)) (fun _ hk => hk.2) (.int .i64 t835)) (fun _ h_ => h_.1)) (fun _ h_ => h_.1)))); (case side2 => exact (Kd.R_reads' HO832.out).2.1); rintro e w219 ⟨v840, rfl, ho0, hb⟩; refine ⟨_, rfl, ?_⟩; have n0_ := Aside0.mk (Kd.R_elder' (by (with_reducible repeat (first | apply Kd.R_alloc | apply Kd.R_drewN | apply Kd.R_drew)); exact (Kd.R_mono (Kd.R_mono (Kd.R_far (p := ⟨gb837, 2, none⟩) (Kd.R_far (p := ⟨gb837, 1, none⟩) (Kd.R_far (p := ⟨gb837, 0, none⟩) (Kd.R_far (p := ⟨gb836, 1, none⟩) (Kd.R_far (p := ⟨gb836, 0, none⟩) (Kd.R_mono (Kd.R_types HO832.out BK836.out (by decide)) (fun k_ hk => (⟨hk, hk.1.2⟩ : _ ∧ k_ ≠ gb837))) (fun _ hk => hk.1.2) (.int .i64 t829)) (fun _ hk => hk.1.2) (.slice Ao217 t830.length co217)) (fun _ hk => hk.2) (.int .i64 t833)) (fun _ hk => hk.2) (.int .i64 t834)) (fun _ hk => hk.2) (.int .i64 t835)) (fun _ h_ => h_.1)) (fun _ h_ => h_.1))) (Kd.R_base ho0) hb); have HO841 := Aside0.mk (Kd.R_lower (Kd.R_newB (Kd.R_new' ho0 (Kd.R_lt (by (with_reducible repeat (first | apply Kd.R_alloc | apply Kd.R_drewN | apply Kd.R_drew)); exact (Kd.R_mono (Kd.R_mono (Kd.R_far (p := ⟨gb837, 2, none⟩) (Kd.R_far (p := ⟨gb837, 1, none⟩) (Kd.R_far (p := ⟨gb837, 0, none⟩) (Kd.R_far (p := ⟨gb836, 1, none⟩) (Kd.R_far (p := ⟨gb836, 0, none⟩) (Kd.R_mono (Kd.R_types HO832.out BK836.out (by decide)) (fun k_ hk => (⟨hk, hk.1.2⟩ : _ ∧ k_ ≠ gb837))) (fun _ hk => hk.1.2) (.int .i64 t829)) (fun _ hk => hk.1.2) (.slice Ao217 t830.length co217)) (fun _ hk => hk.2) (.int .i64 t833)) (fun _ hk => hk.2) (.int .i64 t834)) (fun _ hk => hk.2) (.int .i64 t835)) (fun _ h_ => h_.1)) (fun _ h_ => h_.1))))) (g := gb837) (o := .cells #[.int .i64 t833, .int .i64 t834, .int .i64 t835] 39 (0, 0)) (zw BK837)) (below_size (zy HB))); have n2_ := Aside0.mk (blk_below (g := gb836) (o := .cells #[.int .i64 t829, .slice Ao217 t830.length co217] 30 (0, 0)) (zw BK836) hb); have n3_ := Aside0.mk (blk_below (g := gb837) (o := .cells #[.int .i64 t833, .int .i64 t834, .int .i64 t835] 39 (0, 0)) (zw BK837) hb); replace HB := zh HB hb; clear HO832; have HO832 := n0_; clear n0_; clear BK836; have BK836 := n2_; clear n2_; clear BK837; have BK837 := n3_; clear n3_; clear hb ho0) | ((with_reducible refine gate_dst (N := 48) rfl ?_); (try (refine gate_guard (by rfl) ?_; dsimp only)); refine zE 48 #[.int .i64 0, .slice none 0 0] 30 ?_; intro gb843 hg w220 hbox hb; have BK843 := Aside0.mk (hbox); have GW843 := zg HB hg; have GE843 := GW843; have NB836_843 := zl BK836 hg; have NB843_836 := zr BK836 hg; have NB837_843 := zl BK837 hg; have NB843_837 := zr BK837 hg; replace HO832 := zo HO832 hb; replace HO841 := zo HO841 hb; replace BK836 := zb BK836 hb; replace BK837 := zb BK837 hb; replace HB := zh HB hb; clear hb hbox hg; replace hNB843_836 := NB843_836.out; replace hNB836_843 := NB836_843.out; replace hNB843_837 := NB843_837.out; replace hNB837_843 := NB837_843.out; replace hz843 := zc2 BK843; obtain ⟨Ao224, co224, eo224⟩ := Kd.R_slice HO841.out; subst eo224; replace hz836 := zc2 BK836; replace hz837 := zc3 BK837) | ((with_reducible refine gate_callee (f := 23) rfl ?_); refine zG (some 313) Try.func23 #[.agg #[.int .i64 t829, .slice Ao217 t830.length co217], .agg #[.int .i64 t833, .int .i64 t834, .int .i64 t835]] ?_; (with_reducible refine (spec_AddClue.calls kj176 t829 _ _ t830 t833 t834 t835 t844 t845 t848 _ ?side1 ?side2 A203.out).mono ?_); (case side1 => refine (Kd.R_reads' (e := 39) (base := w.heap.size) (ok := fun k_ => ((True ∧ k_ ≠ gb837) ∧ some k_ ≠ (.slice Ao224 t839.length co224 : Value).ownBlock)) (n := t830.length) (c := co217) ?_).2.2; exact (by (with_reducible repeat (first | apply Kd.R_alloc | apply Kd.R_drewN | apply Kd.R_drew)); exact (Kd.R_mono (Kd.R_far (p := ⟨gb843, 1, none⟩) (Kd.R_far (p := ⟨gb843, 0, none⟩) (Kd.R_types HO832.out BK843.out (by decide)) (fun _ hk => hk.2) (.int .i64 t838)) (fun _ hk => hk.2) (.slice Ao224 t839.length co224)) (fun _ h_ => h_.1)))); (case side2 => exact (Kd.R_reads' HO832.out).2.1); rintro e w227 ⟨v846, rfl, ho0, hb⟩; refine ⟨_, rfl, ?_⟩; have n0_ := Aside0.mk (Kd.R_elder' (by (with_reducible repeat (first | apply Kd.R_alloc | apply Kd.R_drewN | apply Kd.R_drew)); exact (Kd.R_mono (Kd.R_far (p := ⟨gb843, 1, none⟩) (Kd.R_far (p := ⟨gb843, 0, none⟩) (Kd.R_types HO832.out BK843.out (by decide)) (fun _ hk => hk.2) (.int .i64 t838)) (fun _ hk => hk.2) (.slice Ao224 t839.length co224)) (fun _ h_ => h_.1))) (Kd.R_base ho0) hb); have n1_ := Aside0.mk (Kd.R_elder' (by (with_reducible repeat (first | apply Kd.R_alloc | apply Kd.R_drewN | apply Kd.R_drew)); exact (Kd.R_mono (Kd.R_far (p := ⟨gb843, 1, none⟩) (Kd.R_far (p := ⟨gb843, 0, none⟩) (Kd.R_types HO841.out BK843.out (by decide)) (fun _ hk => hk.2) (.int .i64 t838)) (fun _ hk => hk.2) (.slice Ao224 t839.length co224)) (fun _ h_ => h_.1))) (Kd.R_base ho0) hb); have HO847 := Aside0.mk (Kd.R_lower (Kd.R_newB (Kd.R_new' (Kd.R_new' ho0 (Kd.R_lt (by (with_reducible repeat (first | apply Kd.R_alloc | apply Kd.R_drewN | apply Kd.R_drew)); exact (Kd.R_mono (Kd.R_far (p := ⟨gb843, 1, none⟩) (Kd.R_far (p := ⟨gb843, 0, none⟩) (Kd.R_types HO832.out BK843.out (by decide)) (fun _ hk => hk.2) (.int .i64 t838)) (fun _ hk => hk.2) (.slice Ao224 t839.length co224)) (fun _ h_ => h_.1))))) (Kd.R_lt (by (with_reducible repeat (first | apply Kd.R_alloc | apply Kd.R_drewN | apply Kd.R_drew)); exact (Kd.R_mono (Kd.R_far (p := ⟨gb843, 1, none⟩) (Kd.R_far (p := ⟨gb843, 0, none⟩) (Kd.R_types HO841.out BK843.out (by decide)) (fun _ hk => hk.2) (.int .i64 t838)) (fun _ hk => hk.2) (.slice Ao224 t839.length co224)) (fun _ h_ => h_.1))))) (zq BK837)) (below_size (zy HB))); have n5_ := Aside0.mk (blk_below (g := gb843) (o := .cells #[.int .i64 t838, .slice Ao224 t839.length co224] 30 (0, 0)) (zw BK843) hb); replace BK836 := zb BK836 hb; replace BK837 := zb BK837 hb; replace HB := zh HB hb; clear HO832; have HO832 := n0_; clear n0_; clear HO841; have HO841 := n1_; clear n1_; clear BK843; have BK843 := n5_; clear n5_; clear hb ho0) | ((with_reducible refine gate_dst (N := 50) rfl ?_); (try (refine gate_guard (by rfl) ?_; dsimp only)); refine zE 50 #[.int .i64 0, .slice none 0 0] 30 ?_; intro gb849 hg w228 hbox hb; have BK849 := Aside0.mk (hbox); have GW849 := zg HB hg; have GE849 := GW849; have NB836_849 := zl BK836 hg; have NB849_836 := zr BK836 hg; have NB837_849 := zl BK837 hg; have NB849_837 := zr BK837 hg; have NB843_849 := zl BK843 hg; have NB849_843 := zr BK843 hg; replace HO832 := zo HO832 hb; replace HO841 := zo HO841 hb; replace HO847 := zo HO847 hb; replace BK836 := zb BK836 hb; replace BK837 := zb BK837 hb; replace BK843 := zb BK843 hb; replace HB := zh HB hb; clear hb hbox hg; replace hNB849_836 := NB849_836.out; replace hNB836_849 := NB836_849.out; replace hNB849_837 := NB849_837.out; replace hNB837_849 := NB837_849.out; replace hNB849_843 := NB849_843.out; replace hNB843_849 := NB843_849.out; replace hz849 := zc2 BK849; obtain ⟨Ao233, co233, eo233⟩ := Kd.R_slice HO847.out; subst eo233) | ((with_reducible refine gate_callee (f := 24) rfl ?_); refine zG (some 318) Try.func24 #[.slice A1 l1.length c1] ?_; (with_reducible refine (spec_DrawDropClue.calls kj176 _ _ l1 t850 t851 t854 _ ?side1 ?side2 A204.out).mono ?_); (case side1 => exact Kd.C_below HR1.out (zy HB)); (case side2 => exact HC1.out); rintro e w234 ⟨v852, rfl, ho0, hb⟩; refine ⟨_, rfl, ?_⟩; have n0_ := Aside0.mk (Kd.R_elder' (by (with_reducible repeat (first | apply Kd.R_alloc | apply Kd.R_drewN | apply Kd.R_drew)); exact (Kd.R_mono (Kd.R_far (p := ⟨gb849, 1, none⟩) (Kd.R_far (p := ⟨gb849, 0, none⟩) (Kd.R_types HO832.out BK849.out (by decide)) (fun _ hk => hk.2) (.int .i64 t844)) (fun _ hk => hk.2) (.slice Ao233 t845.length co233)) (fun _ h_ => h_.1))) (Kd.R_base ho0) hb); have n1_ := Aside0.mk (Kd.R_elder' (by (with_reducible repeat (first | apply Kd.R_alloc | apply Kd.R_drewN | apply Kd.R_drew)); exact (Kd.R_mono (Kd.R_far (p := ⟨gb849, 1, none⟩) (Kd.R_far (p := ⟨gb849, 0, none⟩) (Kd.R_types HO841.out BK849.out (by decide)) (fun _ hk => hk.2) (.int .i64 t844)) (fun _ hk => hk.2) (.slice Ao233 t845.length co233)) (fun _ h_ => h_.1))) (Kd.R_base ho0) hb); have n2_ := Aside0.mk (Kd.R_elder' (by (with_reducible repeat (first | apply Kd.R_alloc | apply Kd.R_drewN | apply Kd.R_drew)); exact (Kd.R_mono (Kd.R_far (p := ⟨gb849, 1, none⟩) (Kd.R_far (p := ⟨gb849, 0, none⟩) (Kd.R_types HO847.out BK849.out (by decide)) (fun _ hk => hk.2) (.int .i64 t844)) (fun _ hk => hk.2) (.slice Ao233 t845.length co233)) (fun _ h_ => h_.1))) (Kd.R_base ho0) hb); have HO853 := Aside0.mk (Kd.R_lower (Kd.R_newB (Kd.R_new' (Kd.R_new' (Kd.R_new' ho0 (Kd.R_lt (by (with_reducible repeat (first | apply Kd.R_alloc | apply Kd.R_drewN | apply Kd.R_drew)); exact (Kd.R_mono (Kd.R_far (p := ⟨gb849, 1, none⟩) (Kd.R_far (p := ⟨gb849, 0, none⟩) (Kd.R_types HO832.out BK849.out (by decide)) (fun _ hk => hk.2) (.int .i64 t844)) (fun _ hk => hk.2) (.slice Ao233 t845.length co233)) (fun _ h_ => h_.1))))) (Kd.R_lt (by (with_reducible repeat (first | apply Kd.R_alloc | apply Kd.R_drewN | apply Kd.R_drew)); exact (Kd.R_mono (Kd.R_far (p := ⟨gb849, 1, none⟩) (Kd.R_far (p := ⟨gb849, 0, none⟩) (Kd.R_types HO841.out BK849.out (by decide)) (fun _ hk => hk.2) (.int .i64 t844)) (fun _ hk => hk.2) (.slice Ao233 t845.length co233)) (fun _ h_ => h_.1))))) (Kd.R_lt (by (with_reducible repeat (first | apply Kd.R_alloc | apply Kd.R_drewN | apply Kd.R_drew)); exact (Kd.R_mono (Kd.R_far (p := ⟨gb849, 1, none⟩) (Kd.R_far (p := ⟨gb849, 0, none⟩) (Kd.R_types HO847.out BK849.out (by decide)) (fun _ hk => hk.2) (.int .i64 t844)) (fun _ hk => hk.2) (.slice Ao233 t845.length co233)) (fun _ h_ => h_.1))))) (zq BK837)) (below_size (zy HB))); have n7_ := Aside0.mk (blk_below (g := gb849) (o := .cells #[.int .i64 t844, .slice Ao233 t845.length co233] 30 (0, 0)) (zw BK849) hb); replace BK836 := zb BK836 hb; replace BK837 := zb BK837 hb; replace BK843 := zb BK843 hb; replace HB := zh HB hb; clear HO832; have HO832 := n0_; clear n0_; clear HO841; have HO841 := n1_; clear n1_; clear HO847; have HO847 := n2_; clear n2_; clear BK849; have BK849 := n7_; clear n7_; clear hb ho0) | ((with_reducible refine gate_dst (N := 52) rfl ?_); (try (refine gate_guard (by rfl) ?_; dsimp only)); refine zE 52 #[.int .i64 0, .slice none 0 0] 30 ?_; intro gb855 hg w235 hbox hb; have BK855 := Aside0.mk (hbox); have GW855 := zg HB hg; have GE855 := GW855; have NB836_855 := zl BK836 hg; have NB855_836 := zr BK836 hg; have NB837_855 := zl BK837 hg; have NB855_837 := zr BK837 hg; have NB843_855 := zl BK843 hg; have NB855_843 := zr BK843 hg; have NB849_855 := zl BK849 hg; have NB855_849 := zr BK849 hg; replace HO832 := zo HO832 hb; replace HO841 := zo HO841 hb; replace HO847 := zo HO847 hb; replace HO853 := zo HO853 hb; replace BK836 := zb BK836 hb; replace BK837 := zb BK837 hb; replace BK843 := zb BK843 hb; replace BK849 := zb BK849 hb; replace HB := zh HB hb; clear hb hbox hg; replace hNB855_836 := NB855_836.out; replace hNB836_855 := NB836_855.out; replace hNB855_837 := NB855_837.out; replace hNB837_855 := NB837_855.out; replace hNB855_843 := NB855_843.out; replace hNB843_855 := NB843_855.out; replace hNB855_849 := NB855_849.out; replace hNB849_855 := NB849_855.out; replace hz855 := zc2 BK855; obtain ⟨Ao241, co241, eo241⟩ := Kd.R_slice HO853.out; subst eo241) | ((with_reducible refine gate_callee (f := 25) rfl ?_); refine zG (some 324) Try.func25 #[.agg #[.int .i64 t850, .slice Ao241 t851.length co241], .int .i64 t854] ?_; (with_reducible refine (impl_DropClue.calls kj176 t850 _ _ t851 t854 t856 t857 t860 _ ?side1 ?side2 A205.out).mono ?_); (case side1 => refine (Kd.R_reads' (e := 39) (base := w.heap.size) (ok := fun k_ => ((((True ∧ some k_ ≠ (.slice Ao217 t830.length co217 : Value).ownBlock) ∧ some k_ ≠ (.slice Ao224 t839.length co224 : Value).ownBlock) ∧ some k_ ≠ (.slice Ao233 t845.length co233 : Value).ownBlock) ∧ k_ ≠ gb837)) (n := t851.length) (c := co241) ?_).2.2; exact (by (with_reducible repeat (first | apply Kd.R_alloc | apply Kd.R_drewN | apply Kd.R_drew)); exact (Kd.R_mono (Kd.R_far (p := ⟨gb855, 1, none⟩) (Kd.R_far (p := ⟨gb855, 0, none⟩) (Kd.R_types HO853.out BK855.out (by decide)) (fun _ hk => hk.2) (.int .i64 t850)) (fun _ hk => hk.2) (.slice Ao241 t851.length co241)) (fun _ h_ => h_.1)))); (case side2 => exact (Kd.R_reads' HO853.out).2.1); rintro e w242 ⟨v858, rfl, ho0, hb⟩; refine ⟨_, rfl, ?_⟩; have n0_ := Aside0.mk (Kd.R_elder' (by (with_reducible repeat (first | apply Kd.R_alloc | apply Kd.R_drewN | apply Kd.R_drew)); exact (Kd.R_mono (Kd.R_far (p := ⟨gb855, 1, none⟩) (Kd.R_far (p := ⟨gb855, 0, none⟩) (Kd.R_types HO832.out BK855.out (by decide)) (fun _ hk => hk.2) (.int .i64 t850)) (fun _ hk => hk.2) (.slice Ao241 t851.length co241)) (fun _ h_ => h_.1))) (Kd.R_base ho0) hb); have n1_ := Aside0.mk (Kd.R_elder' (by (with_reducible repeat (first | apply Kd.R_alloc | apply Kd.R_drewN | apply Kd.R_drew)); exact (Kd.R_mono (Kd.R_far (p := ⟨gb855, 1, none⟩) (Kd.R_far (p := ⟨gb855, 0, none⟩) (Kd.R_types HO841.out BK855.out (by decide)) (fun _ hk => hk.2) (.int .i64 t850)) (fun _ hk => hk.2) (.slice Ao241 t851.length co241)) (fun _ h_ => h_.1))) (Kd.R_base ho0) hb); have n2_ := Aside0.mk (Kd.R_elder' (by (with_reducible repeat (first | apply Kd.R_alloc | apply Kd.R_drewN | apply Kd.R_drew)); exact (Kd.R_mono (Kd.R_far (p := ⟨gb855, 1, none⟩) (Kd.R_far (p := ⟨gb855, 0, none⟩) (Kd.R_types HO847.out BK855.out (by decide)) (fun _ hk => hk.2) (.int .i64 t850)) (fun _ hk => hk.2) (.slice Ao241 t851.length co241)) (fun _ h_ => h_.1))) (Kd.R_base ho0) hb); have n3_ := Aside0.mk (Kd.R_elder' (by (with_reducible repeat (first | apply Kd.R_alloc | apply Kd.R_drewN | apply Kd.R_drew)); exact (Kd.R_mono (Kd.R_far (p := ⟨gb855, 1, none⟩) (Kd.R_far (p := ⟨gb855, 0, none⟩) (Kd.R_types HO853.out BK855.out (by decide)) (fun _ hk => hk.2) (.int .i64 t850)) (fun _ hk => hk.2) (.slice Ao241 t851.length co241)) (fun _ h_ => h_.1))) (Kd.R_base ho0) hb); have HO859 := Aside0.mk (Kd.R_lower (Kd.R_newB (Kd.R_new' (Kd.R_new' (Kd.R_new' (Kd.R_new' ho0 (Kd.R_lt (by (with_reducible repeat (first | apply Kd.R_alloc | apply Kd.R_drewN | apply Kd.R_drew)); exact (Kd.R_mono (Kd.R_far (p := ⟨gb855, 1, none⟩) (Kd.R_far (p := ⟨gb855, 0, none⟩) (Kd.R_types HO832.out BK855.out (by decide)) (fun _ hk => hk.2) (.int .i64 t850)) (fun _ hk => hk.2) (.slice Ao241 t851.length co241)) (fun _ h_ => h_.1))))) (Kd.R_lt (by (with_reducible repeat (first | apply Kd.R_alloc | apply Kd.R_drewN | apply Kd.R_drew)); exact (Kd.R_mono (Kd.R_far (p := ⟨gb855, 1, none⟩) (Kd.R_far (p := ⟨gb855, 0, none⟩) (Kd.R_types HO841.out BK855.out (by decide)) (fun _ hk => hk.2) (.int .i64 t850)) (fun _ hk => hk.2) (.slice Ao241 t851.length co241)) (fun _ h_ => h_.1))))) (Kd.R_lt (by (with_reducible repeat (first | apply Kd.R_alloc | apply Kd.R_drewN | apply Kd.R_drew)); exact (Kd.R_mono (Kd.R_far (p := ⟨gb855, 1, none⟩) (Kd.R_far (p := ⟨gb855, 0, none⟩) (Kd.R_types HO847.out BK855.out (by decide)) (fun _ hk => hk.2) (.int .i64 t850)) (fun _ hk => hk.2) (.slice Ao241 t851.length co241)) (fun _ h_ => h_.1))))) (Kd.R_lt (by (with_reducible repeat (first | apply Kd.R_alloc | apply Kd.R_drewN | apply Kd.R_drew)); exact (Kd.R_mono (Kd.R_far (p := ⟨gb855, 1, none⟩) (Kd.R_far (p := ⟨gb855, 0, none⟩) (Kd.R_types HO853.out BK855.out (by decide)) (fun _ hk => hk.2) (.int .i64 t850)) (fun _ hk => hk.2) (.slice Ao241 t851.length co241)) (fun _ h_ => h_.1))))) (zq BK837)) (below_size (zy HB))); have n9_ := Aside0.mk (blk_below (g := gb855) (o := .cells #[.int .i64 t850, .slice Ao241 t851.length co241] 30 (0, 0)) (zw BK855) hb); replace BK836 := zb BK836 hb; replace BK837 := zb BK837 hb; replace BK843 := zb BK843 hb; replace BK849 := zb BK849 hb; replace HB := zh HB hb; clear HO832; have HO832 := n0_; clear n0_; clear HO841; have HO841 := n1_; clear n1_; clear HO847; have HO847 := n2_; clear n2_; clear HO853; have HO853 := n3_; clear n3_; clear BK855; have BK855 := n9_; clear n9_; clear hb ho0) | ((with_reducible refine gate_dst (N := 54) rfl ?_); (try (refine gate_guard (by rfl) ?_; dsimp only)); refine zE 54 #[.int .i64 0, .slice none 0 0] 30 ?_; intro gb861 hg w243 hbox hb; have BK861 := Aside0.mk (hbox); have GW861 := zg HB hg; have GE861 := GW861; have NB836_861 := zl BK836 hg; have NB861_836 := zr BK836 hg; have NB837_861 := zl BK837 hg; have NB861_837 := zr BK837 hg; have NB843_861 := zl BK843 hg; have NB861_843 := zr BK843 hg; have NB849_861 := zl BK849 hg; have NB861_849 := zr BK849 hg; have NB855_861 := zl BK855 hg; have NB861_855 := zr BK855 hg; replace HO832 := zo HO832 hb; replace HO841 := zo HO841 hb; replace HO847 := zo HO847 hb; replace HO853 := zo HO853 hb; replace HO859 := zo HO859 hb; replace BK836 := zb BK836 hb; replace BK837 := zb BK837 hb; replace BK843 := zb BK843 hb; replace BK849 := zb BK849 hb; replace BK855 := zb BK855 hb; replace HB := zh HB hb; clear hb hbox hg; replace hNB861_836 := NB861_836.out; replace hNB836_861 := NB836_861.out; replace hNB861_837 := NB861_837.out; replace hNB837_861 := NB837_861.out; replace hNB861_843 := NB861_843.out; replace hNB843_861 := NB843_861.out; replace hNB861_849 := NB861_849.out; replace hNB849_861 := NB849_861.out; replace hNB861_855 := NB861_855.out; replace hNB855_861 := NB855_861.out; replace hz861 := zc2 BK861; obtain ⟨Ao250, co250, eo250⟩ := Kd.R_slice HO859.out; subst eo250; replace hz855 := zc2 BK855) | ((with_reducible refine gate_callee (f := 26) rfl ?_); refine zG (some 330) Try.func26 #[.agg #[.int .i64 t850, .slice Ao241 t851.length co241], .int .i64 t854] ?_; (with_reducible refine (spec_DropClue.calls kj176 t850 _ _ t851 t854 t862 t863 t866 _ ?side1 ?side2 A206.out).mono ?_); (case side1 => refine (Kd.R_reads' (e := 39) (base := w.heap.size) (ok := fun k_ => (((((True ∧ some k_ ≠ (.slice Ao217 t830.length co217 : Value).ownBlock) ∧ some k_ ≠ (.slice Ao224 t839.length co224 : Value).ownBlock) ∧ some k_ ≠ (.slice Ao233 t845.length co233 : Value).ownBlock) ∧ k_ ≠ gb837) ∧ some k_ ≠ (.slice Ao250 t857.length co250 : Value).ownBlock)) (n := t851.length) (c := co241) ?_).2.2; exact (by (with_reducible repeat (first | apply Kd.R_alloc | apply Kd.R_drewN | apply Kd.R_drew)); exact (Kd.R_mono (Kd.R_far (p := ⟨gb861, 1, none⟩) (Kd.R_far (p := ⟨gb861, 0, none⟩) (Kd.R_types HO853.out BK861.out (by decide)) (fun _ hk => hk.2) (.int .i64 t856)) (fun _ hk => hk.2) (.slice Ao250 t857.length co250)) (fun _ h_ => h_.1)))); (case side2 => exact (Kd.R_reads' HO853.out).2.1); rintro e w252 ⟨v864, rfl, ho0, hb⟩; refine ⟨_, rfl, ?_⟩; have n0_ := Aside0.mk (Kd.R_elder' (by (with_reducible repeat (first | apply Kd.R_alloc | apply Kd.R_drewN | apply Kd.R_drew)); exact (Kd.R_mono (Kd.R_far (p := ⟨gb861, 1, none⟩) (Kd.R_far (p := ⟨gb861, 0, none⟩) (Kd.R_types HO832.out BK861.out (by decide)) (fun _ hk => hk.2) (.int .i64 t856)) (fun _ hk => hk.2) (.slice Ao250 t857.length co250)) (fun _ h_ => h_.1))) (Kd.R_base ho0) hb); have n1_ := Aside0.mk (Kd.R_elder' (by (with_reducible repeat (first | apply Kd.R_alloc | apply Kd.R_drewN | apply Kd.R_drew)); exact (Kd.R_mono (Kd.R_far (p := ⟨gb861, 1, none⟩) (Kd.R_far (p := ⟨gb861, 0, none⟩) (Kd.R_types HO841.out BK861.out (by decide)) (fun _ hk => hk.2) (.int .i64 t856)) (fun _ hk => hk.2) (.slice Ao250 t857.length co250)) (fun _ h_ => h_.1))) (Kd.R_base ho0) hb); have n2_ := Aside0.mk (Kd.R_elder' (by (with_reducible repeat (first | apply Kd.R_alloc | apply Kd.R_drewN | apply Kd.R_drew)); exact (Kd.R_mono (Kd.R_far (p := ⟨gb861, 1, none⟩) (Kd.R_far (p := ⟨gb861, 0, none⟩) (Kd.R_types HO847.out BK861.out (by decide)) (fun _ hk => hk.2) (.int .i64 t856)) (fun _ hk => hk.2) (.slice Ao250 t857.length co250)) (fun _ h_ => h_.1))) (Kd.R_base ho0) hb); have n3_ := Aside0.mk (Kd.R_elder' (by (with_reducible repeat (first | apply Kd.R_alloc | apply Kd.R_drewN | apply Kd.R_drew)); exact (Kd.R_mono (Kd.R_far (p := ⟨gb861, 1, none⟩) (Kd.R_far (p := ⟨gb861, 0, none⟩) (Kd.R_types HO853.out BK861.out (by decide)) (fun _ hk => hk.2) (.int .i64 t856)) (fun _ hk => hk.2) (.slice Ao250 t857.length co250)) (fun _ h_ => h_.1))) (Kd.R_base ho0) hb); have n4_ := Aside0.mk (Kd.R_elder' (by (with_reducible repeat (first | apply Kd.R_alloc | apply Kd.R_drewN | apply Kd.R_drew)); exact (Kd.R_mono (Kd.R_far (p := ⟨gb861, 1, none⟩) (Kd.R_far (p := ⟨gb861, 0, none⟩) (Kd.R_types HO859.out BK861.out (by decide)) (fun _ hk => hk.2) (.int .i64 t856)) (fun _ hk => hk.2) (.slice Ao250 t857.length co250)) (fun _ h_ => h_.1))) (Kd.R_base ho0) hb); have HO865 := Aside0.mk (Kd.R_lower (Kd.R_newB (Kd.R_new' (Kd.R_new' (Kd.R_new' (Kd.R_new' (Kd.R_new' ho0 (Kd.R_lt (by (with_reducible repeat (first | apply Kd.R_alloc | apply Kd.R_drewN | apply Kd.R_drew)); exact (Kd.R_mono (Kd.R_far (p := ⟨gb861, 1, none⟩) (Kd.R_far (p := ⟨gb861, 0, none⟩) (Kd.R_types HO832.out BK861.out (by decide)) (fun _ hk => hk.2) (.int .i64 t856)) (fun _ hk => hk.2) (.slice Ao250 t857.length co250)) (fun _ h_ => h_.1))))) (Kd.R_lt (by (with_reducible repeat (first | apply Kd.R_alloc | apply Kd.R_drewN | apply Kd.R_drew)); exact (Kd.R_mono (Kd.R_far (p := ⟨gb861, 1, none⟩) (Kd.R_far (p := ⟨gb861, 0, none⟩) (Kd.R_types HO841.out BK861.out (by decide)) (fun _ hk => hk.2) (.int .i64 t856)) (fun _ hk => hk.2) (.slice Ao250 t857.length co250)) (fun _ h_ => h_.1))))) (Kd.R_lt (by (with_reducible repeat (first | apply Kd.R_alloc | apply Kd.R_drewN | apply Kd.R_drew)); exact (Kd.R_mono (Kd.R_far (p := ⟨gb861, 1, none⟩) (Kd.R_far (p := ⟨gb861, 0, none⟩) (Kd.R_types HO847.out BK861.out (by decide)) (fun _ hk => hk.2) (.int .i64 t856)) (fun _ hk => hk.2) (.slice Ao250 t857.length co250)) (fun _ h_ => h_.1))))) (Kd.R_lt (by (with_reducible repeat (first | apply Kd.R_alloc | apply Kd.R_drewN | apply Kd.R_drew)); exact (Kd.R_mono (Kd.R_far (p := ⟨gb861, 1, none⟩) (Kd.R_far (p := ⟨gb861, 0, none⟩) (Kd.R_types HO853.out BK861.out (by decide)) (fun _ hk => hk.2) (.int .i64 t856)) (fun _ hk => hk.2) (.slice Ao250 t857.length co250)) (fun _ h_ => h_.1))))) (Kd.R_lt (by (with_reducible repeat (first | apply Kd.R_alloc | apply Kd.R_drewN | apply Kd.R_drew)); exact (Kd.R_mono (Kd.R_far (p := ⟨gb861, 1, none⟩) (Kd.R_far (p := ⟨gb861, 0, none⟩) (Kd.R_types HO859.out BK861.out (by decide)) (fun _ hk => hk.2) (.int .i64 t856)) (fun _ hk => hk.2) (.slice Ao250 t857.length co250)) (fun _ h_ => h_.1))))) (zq BK837)) (below_size (zy HB))); have n11_ := Aside0.mk (blk_below (g := gb861) (o := .cells #[.int .i64 t856, .slice Ao250 t857.length co250] 30 (0, 0)) (zw BK861) hb); replace BK836 := zb BK836 hb; replace BK837 := zb BK837 hb; replace BK843 := zb BK843 hb; replace BK849 := zb BK849 hb; replace BK855 := zb BK855 hb; replace HB := zh HB hb; clear HO832; have HO832 := n0_; clear n0_; clear HO841; have HO841 := n1_; clear n1_; clear HO847; have HO847 := n2_; clear n2_; clear HO853; have HO853 := n3_; clear n3_; clear HO859; have HO859 := n4_; clear n4_; clear BK861; have BK861 := n11_; clear n11_; clear hb ho0) | ((with_reducible refine gate_dst (N := 56) rfl ?_); (try (refine gate_guard (by rfl) ?_; dsimp only)); refine zE 56 #[.int .i64 0, .slice none 0 0] 30 ?_; intro gb867 hg w253 hbox hb; have BK867 := Aside0.mk (hbox); have GW867 := zg HB hg; have GE867 := GW867; have NB836_867 := zl BK836 hg; have NB867_836 := zr BK836 hg; have NB837_867 := zl BK837 hg; have NB867_837 := zr BK837 hg; have NB843_867 := zl BK843 hg; have NB867_843 := zr BK843 hg; have NB849_867 := zl BK849 hg; have NB867_849 := zr BK849 hg; have NB855_867 := zl BK855 hg; have NB867_855 := zr BK855 hg; have NB861_867 := zl BK861 hg; have NB867_861 := zr BK861 hg; replace HO832 := zo HO832 hb; replace HO841 := zo HO841 hb; replace HO847 := zo HO847 hb; replace HO853 := zo HO853 hb; replace HO859 := zo HO859 hb; replace HO865 := zo HO865 hb; replace BK836 := zb BK836 hb; replace BK837 := zb BK837 hb; replace BK843 := zb BK843 hb; replace BK849 := zb BK849 hb; replace BK855 := zb BK855 hb; replace BK861 := zb BK861 hb; replace HB := zh HB hb; clear hb hbox hg; replace hNB867_836 := NB867_836.out; replace hNB836_867 := NB836_867.out; replace hNB867_837 := NB867_837.out; replace hNB837_867 := NB837_867.out; replace hNB867_843 := NB867_843.out; replace hNB843_867 := NB843_867.out; replace hNB867_849 := NB867_849.out; replace hNB849_867 := NB849_867.out; replace hNB867_855 := NB867_855.out; replace hNB855_867 := NB855_867.out; replace hNB867_861 := NB867_861.out; replace hNB861_867 := NB861_867.out; replace hz867 := zc2 BK867; obtain ⟨Ao261, co261, eo261⟩ := Kd.R_slice HO865.out; subst eo261) | ((with_reducible refine gate_callee (f := 27) rfl ?_); refine zG (some 335) Try.func27 #[.slice A1 l1.length c1] ?_; (with_reducible refine (spec_DrawDoesFit.calls kj176 _ _ l1 t868 t869 t870 t871 t872 t873 _ ?side1 ?side2 A207.out).mono ?_); (case side1 => exact Kd.C_below HR1.out (zy HB)); (case side2 => exact HC1.out); rintro e w262 ⟨rfl, hb⟩; refine ⟨_, rfl, ?_⟩; have n0_ := Aside0.mk (Kd.R_below (by (with_reducible repeat (first | apply Kd.R_alloc | apply Kd.R_drewN | apply Kd.R_drew)); exact (Kd.R_mono (Kd.R_far (p := ⟨gb867, 1, none⟩) (Kd.R_far (p := ⟨gb867, 0, none⟩) (Kd.R_types HO832.out BK867.out (by decide)) (fun _ hk => hk.2) (.int .i64 t862)) (fun _ hk => hk.2) (.slice Ao261 t863.length co261)) (fun _ h_ => h_.1))) hb); have n1_ := Aside0.mk (Kd.R_below (by (with_reducible repeat (first | apply Kd.R_alloc | apply Kd.R_drewN | apply Kd.R_drew)); exact (Kd.R_mono (Kd.R_far (p := ⟨gb867, 1, none⟩) (Kd.R_far (p := ⟨gb867, 0, none⟩) (Kd.R_types HO841.out BK867.out (by decide)) (fun _ hk => hk.2) (.int .i64 t862)) (fun _ hk => hk.2) (.slice Ao261 t863.length co261)) (fun _ h_ => h_.1))) hb); have n2_ := Aside0.mk (Kd.R_below (by (with_reducible repeat (first | apply Kd.R_alloc | apply Kd.R_drewN | apply Kd.R_drew)); exact (Kd.R_mono (Kd.R_far (p := ⟨gb867, 1, none⟩) (Kd.R_far (p := ⟨gb867, 0, none⟩) (Kd.R_types HO847.out BK867.out (by decide)) (fun _ hk => hk.2) (.int .i64 t862)) (fun _ hk => hk.2) (.slice Ao261 t863.length co261)) (fun _ h_ => h_.1))) hb); have n3_ := Aside0.mk (Kd.R_below (by (with_reducible repeat (first | apply Kd.R_alloc | apply Kd.R_drewN | apply Kd.R_drew)); exact (Kd.R_mono (Kd.R_far (p := ⟨gb867, 1, none⟩) (Kd.R_far (p := ⟨gb867, 0, none⟩) (Kd.R_types HO853.out BK867.out (by decide)) (fun _ hk => hk.2) (.int .i64 t862)) (fun _ hk => hk.2) (.slice Ao261 t863.length co261)) (fun _ h_ => h_.1))) hb); have n4_ := Aside0.mk (Kd.R_below (by (with_reducible repeat (first | apply Kd.R_alloc | apply Kd.R_drewN | apply Kd.R_drew)); exact (Kd.R_mono (Kd.R_far (p := ⟨gb867, 1, none⟩) (Kd.R_far (p := ⟨gb867, 0, none⟩) (Kd.R_types HO859.out BK867.out (by decide)) (fun _ hk => hk.2) (.int .i64 t862)) (fun _ hk => hk.2) (.slice Ao261 t863.length co261)) (fun _ h_ => h_.1))) hb); have n5_ := Aside0.mk (Kd.R_below (by (with_reducible repeat (first | apply Kd.R_alloc | apply Kd.R_drewN | apply Kd.R_drew)); exact (Kd.R_mono (Kd.R_far (p := ⟨gb867, 1, none⟩) (Kd.R_far (p := ⟨gb867, 0, none⟩) (Kd.R_types HO865.out BK867.out (by decide)) (fun _ hk => hk.2) (.int .i64 t862)) (fun _ hk => hk.2) (.slice Ao261 t863.length co261)) (fun _ h_ => h_.1))) hb); have n12_ := Aside0.mk (blk_below (g := gb867) (o := .cells #[.int .i64 t862, .slice Ao261 t863.length co261] 30 (0, 0)) (zw BK867) hb); replace BK836 := zb BK836 hb; replace BK837 := zb BK837 hb; replace BK843 := zb BK843 hb; replace BK849 := zb BK849 hb; replace BK855 := zb BK855 hb; replace BK861 := zb BK861 hb; replace HB := zh HB hb; clear HO832; have HO832 := n0_; clear n0_; clear HO841; have HO841 := n1_; clear n1_; clear HO847; have HO847 := n2_; clear n2_; clear HO853; have HO853 := n3_; clear n3_; clear HO859; have HO859 := n4_; clear n4_; clear HO865; have HO865 := n5_; clear n5_; clear BK867; have BK867 := n12_; clear n12_; clear hb) | ((with_reducible refine gate_dst (N := 58) rfl ?_); (try (refine gate_guard (by rfl) ?_; dsimp only)); refine zE 58 #[.int .i64 0, .int .i64 0, .int .i64 0] 39 ?_; intro gb874 hg w263 hbox hb; have n0_ := Aside0.mk (Kd.R_below (Kd.R_elderB (zs HO832) gb874 (Nat.le_of_eq hg.symm)) hb); have n1_ := Aside0.mk (Kd.R_below (Kd.R_elderB (zs HO841) gb874 (Nat.le_of_eq hg.symm)) hb); have n2_ := Aside0.mk (Kd.R_below (Kd.R_elderB (zs HO847) gb874 (Nat.le_of_eq hg.symm)) hb); have n3_ := Aside0.mk (Kd.R_below (Kd.R_elderB (zs HO853) gb874 (Nat.le_of_eq hg.symm)) hb); have n4_ := Aside0.mk (Kd.R_below (Kd.R_elderB (zs HO859) gb874 (Nat.le_of_eq hg.symm)) hb); have n5_ := Aside0.mk (Kd.R_below (Kd.R_elderB (zs HO865) gb874 (Nat.le_of_eq hg.symm)) hb); have BK874 := Aside0.mk (hbox); have GW874 := zg HB hg; have GE874 := GW874; have NB836_874 := zl BK836 hg; have NB874_836 := zr BK836 hg; have NB837_874 := zl BK837 hg; have NB874_837 := zr BK837 hg; have NB843_874 := zl BK843 hg; have NB874_843 := zr BK843 hg; have NB849_874 := zl BK849 hg; have NB874_849 := zr BK849 hg; have NB855_874 := zl BK855 hg; have NB874_855 := zr BK855 hg; have NB861_874 := zl BK861 hg; have NB874_861 := zr BK861 hg; have NB867_874 := zl BK867 hg; have NB874_867 := zr BK867 hg; replace BK836 := zb BK836 hb; replace BK837 := zb BK837 hb; replace BK843 := zb BK843 hb; replace BK849 := zb BK849 hb; replace BK855 := zb BK855 hb; replace BK861 := zb BK861 hb; replace BK867 := zb BK867 hb; replace HB := zh HB hb; clear HO832; have HO832 := n0_; clear n0_; clear HO841; have HO841 := n1_; clear n1_; clear HO847; have HO847 := n2_; clear n2_; clear HO853; have HO853 := n3_; clear n3_; clear HO859; have HO859 := n4_; clear n4_; clear HO865; have HO865 := n5_; clear n5_; clear hb hbox hg) | ((with_reducible refine gate_dst (N := 59) rfl ?_); (try (refine gate_guard (by rfl) ?_; dsimp only)); refine zE 59 #[.int .i64 0, .int .i64 0, .int .i64 0] 25 ?_; intro gb875 hg w264 hbox hb; have BK875 := Aside0.mk (hbox); have GW875 := zg HB hg; have GE875 := GW875; have NB836_875 := zl BK836 hg; have NB875_836 := zr BK836 hg; have NB837_875 := zl BK837 hg; have NB875_837 := zr BK837 hg; have NB843_875 := zl BK843 hg; have NB875_843 := zr BK843 hg; have NB849_875 := zl BK849 hg; have NB875_849 := zr BK849 hg; have NB855_875 := zl BK855 hg; have NB875_855 := zr BK855 hg; have NB861_875 := zl BK861 hg; have NB875_861 := zr BK861 hg; have NB867_875 := zl BK867 hg; have NB875_867 := zr BK867 hg; have NB874_875 := zl BK874 hg; have NB875_874 := zr BK874 hg; replace HO832 := zo HO832 hb; replace HO841 := zo HO841 hb; replace HO847 := zo HO847 hb; replace HO853 := zo HO853 hb; replace HO859 := zo HO859 hb; replace HO865 := zo HO865 hb; replace BK836 := zb BK836 hb; replace BK837 := zb BK837 hb; replace BK843 := zb BK843 hb; replace BK849 := zb BK849 hb; replace BK855 := zb BK855 hb; replace BK861 := zb BK861 hb; replace BK867 := zb BK867 hb; replace BK874 := zb BK874 hb; replace HB := zh HB hb; clear hb hbox hg; replace hNB874_836 := NB874_836.out; replace hNB836_874 := NB836_874.out; replace hNB874_837 := NB874_837.out; replace hNB837_874 := NB837_874.out; replace hNB874_843 := NB874_843.out; replace hNB843_874 := NB843_874.out; replace hNB874_849 := NB874_849.out; replace hNB849_874 := NB849_874.out; replace hNB874_855 := NB874_855.out; replace hNB855_874 := NB855_874.out; replace hNB874_861 := NB874_861.out; replace hNB861_874 := NB861_874.out; replace hNB874_867 := NB874_867.out; replace hNB867_874 := NB867_874.out; replace hNB874_875 := NB874_875.out; replace hNB875_874 := NB875_874.out; replace hz874 := zc3 BK874; replace hNB875_836 := NB875_836.out; replace hNB836_875 := NB836_875.out; replace hNB875_837 := NB875_837.out; replace hNB837_875 := NB837_875.out; replace hNB875_843 := NB875_843.out; replace hNB843_875 := NB843_875.out; replace hNB875_849 := NB875_849.out; replace hNB849_875 := NB849_875.out; replace hNB875_855 := NB875_855.out; replace hNB855_875 := NB855_875.out; replace hNB875_861 := NB875_861.out; replace hNB861_875 := NB861_875.out; replace hNB875_867 := NB875_867.out; replace hNB867_875 := NB867_875.out; replace hz875 := zc3 BK875) | ((with_reducible refine gate_callee (f := 10) rfl ?_); refine zG (some 341) Try.func10 #[.agg #[.int .i64 t868, .int .i64 t869, .int .i64 t870], .agg #[.int .i64 t871, .int .i64 t872, .int .i64 t873]] ?_; (with_reducible refine (impl_DoesFit.calls kj176 t868 t869 t870 t871 t872 t873 t876 t877 _ A208.out).mono ?_); rintro e w282 ⟨rfl, hb⟩; refine ⟨_, rfl, ?_⟩; have n0_ := Aside0.mk (Kd.R_below (by (with_reducible repeat (first | apply Kd.R_alloc | apply Kd.R_drewN | apply Kd.R_drew)); exact (Kd.R_mono (Kd.R_mono (Kd.R_far (p := ⟨gb875, 2, none⟩) (Kd.R_far (p := ⟨gb875, 1, none⟩) (Kd.R_far (p := ⟨gb875, 0, none⟩) (Kd.R_far (p := ⟨gb874, 2, none⟩) (Kd.R_far (p := ⟨gb874, 1, none⟩) (Kd.R_far (p := ⟨gb874, 0, none⟩) (Kd.R_types (Kd.R_mono HO832.out (fun k_ hk => (⟨hk, hk.2⟩ : _ ∧ k_ ≠ gb874))) BK875.out (by decide)) (fun _ hk => hk.1.2) (.int .i64 t868)) (fun _ hk => hk.1.2) (.int .i64 t869)) (fun _ hk => hk.1.2) (.int .i64 t870)) (fun _ hk => hk.2) (.int .i64 t871)) (fun _ hk => hk.2) (.int .i64 t872)) (fun _ hk => hk.2) (.int .i64 t873)) (fun _ h_ => h_.1)) (fun _ h_ => h_.1))) hb); have n1_ := Aside0.mk (Kd.R_below (by (with_reducible repeat (first | apply Kd.R_alloc | apply Kd.R_drewN | apply Kd.R_drew)); exact (Kd.R_mono (Kd.R_mono (Kd.R_far (p := ⟨gb875, 2, none⟩) (Kd.R_far (p := ⟨gb875, 1, none⟩) (Kd.R_far (p := ⟨gb875, 0, none⟩) (Kd.R_far (p := ⟨gb874, 2, none⟩) (Kd.R_far (p := ⟨gb874, 1, none⟩) (Kd.R_far (p := ⟨gb874, 0, none⟩) (Kd.R_types (Kd.R_mono HO841.out (fun k_ hk => (⟨hk, hk.2⟩ : _ ∧ k_ ≠ gb874))) BK875.out (by decide)) (fun _ hk => hk.1.2) (.int .i64 t868)) (fun _ hk => hk.1.2) (.int .i64 t869)) (fun _ hk => hk.1.2) (.int .i64 t870)) (fun _ hk => hk.2) (.int .i64 t871)) (fun _ hk => hk.2) (.int .i64 t872)) (fun _ hk => hk.2) (.int .i64 t873)) (fun _ h_ => h_.1)) (fun _ h_ => h_.1))) hb); have n2_ := Aside0.mk (Kd.R_below (by (with_reducible repeat (first | apply Kd.R_alloc | apply Kd.R_drewN | apply Kd.R_drew)); exact (Kd.R_mono (Kd.R_mono (Kd.R_far (p := ⟨gb875, 2, none⟩) (Kd.R_far (p := ⟨gb875, 1, none⟩) (Kd.R_far (p := ⟨gb875, 0, none⟩) (Kd.R_far (p := ⟨gb874, 2, none⟩) (Kd.R_far (p := ⟨gb874, 1, none⟩) (Kd.R_far (p := ⟨gb874, 0, none⟩) (Kd.R_types (Kd.R_mono HO847.out (fun k_ hk => (⟨hk, hk.2⟩ : _ ∧ k_ ≠ gb874))) BK875.out (by decide)) (fun _ hk => hk.1.2) (.int .i64 t868)) (fun _ hk => hk.1.2) (.int .i64 t869)) (fun _ hk => hk.1.2) (.int .i64 t870)) (fun _ hk => hk.2) (.int .i64 t871)) (fun _ hk => hk.2) (.int .i64 t872)) (fun _ hk => hk.2) (.int .i64 t873)) (fun _ h_ => h_.1)) (fun _ h_ => h_.1))) hb); have n3_ := Aside0.mk (Kd.R_below (by (with_reducible repeat (first | apply Kd.R_alloc | apply Kd.R_drewN | apply Kd.R_drew)); exact (Kd.R_mono (Kd.R_mono (Kd.R_far (p := ⟨gb875, 2, none⟩) (Kd.R_far (p := ⟨gb875, 1, none⟩) (Kd.R_far (p := ⟨gb875, 0, none⟩) (Kd.R_far (p := ⟨gb874, 2, none⟩) (Kd.R_far (p := ⟨gb874, 1, none⟩) (Kd.R_far (p := ⟨gb874, 0, none⟩) (Kd.R_types (Kd.R_mono HO853.out (fun k_ hk => (⟨hk, hk.2⟩ : _ ∧ k_ ≠ gb874))) BK875.out (by decide)) (fun _ hk => hk.1.2) (.int .i64 t868)) (fun _ hk => hk.1.2) (.int .i64 t869)) (fun _ hk => hk.1.2) (.int .i64 t870)) (fun _ hk => hk.2) (.int .i64 t871)) (fun _ hk => hk.2) (.int .i64 t872)) (fun _ hk => hk.2) (.int .i64 t873)) (fun _ h_ => h_.1)) (fun _ h_ => h_.1))) hb); have n4_ := Aside0.mk (Kd.R_below (by (with_reducible repeat (first | apply Kd.R_alloc | apply Kd.R_drewN | apply Kd.R_drew)); exact (Kd.R_mono (Kd.R_mono (Kd.R_far (p := ⟨gb875, 2, none⟩) (Kd.R_far (p := ⟨gb875, 1, none⟩) (Kd.R_far (p := ⟨gb875, 0, none⟩) (Kd.R_far (p := ⟨gb874, 2, none⟩) (Kd.R_far (p := ⟨gb874, 1, none⟩) (Kd.R_far (p := ⟨gb874, 0, none⟩) (Kd.R_types (Kd.R_mono HO859.out (fun k_ hk => (⟨hk, hk.2⟩ : _ ∧ k_ ≠ gb874))) BK875.out (by decide)) (fun _ hk => hk.1.2) (.int .i64 t868)) (fun _ hk => hk.1.2) (.int .i64 t869)) (fun _ hk => hk.1.2) (.int .i64 t870)) (fun _ hk => hk.2) (.int .i64 t871)) (fun _ hk => hk.2) (.int .i64 t872)) (fun _ hk => hk.2) (.int .i64 t873)) (fun _ h_ => h_.1)) (fun _ h_ => h_.1))) hb); have n5_ := Aside0.mk (Kd.R_below (by (with_reducible repeat (first | apply Kd.R_alloc | apply Kd.R_drewN | apply Kd.R_drew)); exact (Kd.R_mono (Kd.R_mono (Kd.R_far (p := ⟨gb875, 2, none⟩) (Kd.R_far (p := ⟨gb875, 1, none⟩) (Kd.R_far (p := ⟨gb875, 0, none⟩) (Kd.R_far (p := ⟨gb874, 2, none⟩) (Kd.R_far (p := ⟨gb874, 1, none⟩) (Kd.R_far (p := ⟨gb874, 0, none⟩) (Kd.R_types (Kd.R_mono HO865.out (fun k_ hk => (⟨hk, hk.2⟩ : _ ∧ k_ ≠ gb874))) BK875.out (by decide)) (fun _ hk => hk.1.2) (.int .i64 t868)) (fun _ hk => hk.1.2) (.int .i64 t869)) (fun _ hk => hk.1.2) (.int .i64 t870)) (fun _ hk => hk.2) (.int .i64 t871)) (fun _ hk => hk.2) (.int .i64 t872)) (fun _ hk => hk.2) (.int .i64 t873)) (fun _ h_ => h_.1)) (fun _ h_ => h_.1))) hb); have n13_ := Aside0.mk (blk_below (g := gb874) (o := .cells #[.int .i64 t868, .int .i64 t869, .int .i64 t870] 39 (0, 0)) (zw BK874) hb); have n14_ := Aside0.mk (blk_below (g := gb875) (o := .cells #[.int .i64 t871, .int .i64 t872, .int .i64 t873] 25 (0, 0)) (zw BK875) hb); replace BK836 := zb BK836 hb; replace BK837 := zb BK837 hb; replace BK843 := zb BK843 hb; replace BK849 := zb BK849 hb; replace BK855 := zb BK855 hb; replace BK861 := zb BK861 hb; replace BK867 := zb BK867 hb; replace HB := zh HB hb; clear HO832; have HO832 := n0_; clear n0_; clear HO841; have HO841 := n1_; clear n1_; clear HO847; have HO847 := n2_; clear n2_; clear HO853; have HO853 := n3_; clear n3_; clear HO859; have HO859 := n4_; clear n4_; clear HO865; have HO865 := n5_; clear n5_; clear BK874; have BK874 := n13_; clear n13_; clear BK875; have BK875 := n14_; clear n14_; clear hb; replace hz874 := zc3 BK874; replace hz875 := zc3 BK875) | ((with_reducible refine gate_callee (f := 28) rfl ?_); refine zG (some 347) Try.func28 #[.agg #[.int .i64 t868, .int .i64 t869, .int .i64 t870], .agg #[.int .i64 t871, .int .i64 t872, .int .i64 t873]] ?_; (with_reducible refine (spec_DoesFit.calls kj176 t868 t869 t870 t871 t872 t873 t878 t879 _ A209.out).mono ?_); rintro e w285 ⟨rfl, hb⟩; refine ⟨_, rfl, ?_⟩; replace HO832 := zo HO832 hb; replace HO841 := zo HO841 hb; replace HO847 := zo HO847 hb; replace HO853 := zo HO853 hb; replace HO859 := zo HO859 hb; replace HO865 := zo HO865 hb; replace BK836 := zb BK836 hb; replace BK837 := zb BK837 hb; replace BK843 := zb BK843 hb; replace BK849 := zb BK849 hb; replace BK855 := zb BK855 hb; replace BK861 := zb BK861 hb; replace BK867 := zb BK867 hb; replace BK874 := zb BK874 hb; replace BK875 := zb BK875 hb; replace HB := zh HB hb; clear hb) | ((with_reducible refine gate_callee (f := 29) rfl ?_); refine zG (some 352) Try.func29 #[.slice A1 l1.length c1] ?_; (with_reducible refine (spec_DrawIsClue.calls kj176 _ _ l1 t880 t881 t882 t883 _ ?side1 ?side2 A210.out).mono ?_); (case side1 => repeat (first | exact (Kd.C_below HR1.out HB.out) | (with_reducible refine Kd.C_alloc ?_ _) | (with_reducible refine Kd.C_drewN ?_ _) | (with_reducible refine Kd.C_drew ?_))); (case side2 => exact HC1.out); rintro e w286 ⟨rfl, hb⟩; refine ⟨_, rfl, ?_⟩; replace HO832 := zo HO832 hb; replace HO841 := zo HO841 hb; replace HO847 := zo HO847 hb; replace HO853 := zo HO853 hb; replace HO859 := zo HO859 hb; replace HO865 := zo HO865 hb; replace BK836 := zb BK836 hb; replace BK837 := zb BK837 hb; replace BK843 := zb BK843 hb; replace BK849 := zb BK849 hb; replace BK855 := zb BK855 hb; replace BK861 := zb BK861 hb; replace BK867 := zb BK867 hb; replace BK874 := zb BK874 hb; replace BK875 := zb BK875 hb; replace HB := zh HB hb; clear hb) | ((with_reducible refine gate_dst (N := 65) rfl ?_); (try (refine gate_guard (by rfl) ?_; dsimp only)); refine zE 65 #[.int .i64 0, .int .i64 0, .int .i64 0] 39 ?_; intro gb884 hg w287 hbox hb; have n0_ := Aside0.mk (Kd.R_below (Kd.R_elderB (zs HO832) gb884 (Nat.le_of_eq hg.symm)) hb); have n1_ := Aside0.mk (Kd.R_below (Kd.R_elderB (zs HO841) gb884 (Nat.le_of_eq hg.symm)) hb); have n2_ := Aside0.mk (Kd.R_below (Kd.R_elderB (zs HO847) gb884 (Nat.le_of_eq hg.symm)) hb); have n3_ := Aside0.mk (Kd.R_below (Kd.R_elderB (zs HO853) gb884 (Nat.le_of_eq hg.symm)) hb); have n4_ := Aside0.mk (Kd.R_below (Kd.R_elderB (zs HO859) gb884 (Nat.le_of_eq hg.symm)) hb); have n5_ := Aside0.mk (Kd.R_below (Kd.R_elderB (zs HO865) gb884 (Nat.le_of_eq hg.symm)) hb); have BK884 := Aside0.mk (hbox); have GW884 := zg HB hg; have GE884 := GW884; have NB836_884 := zl BK836 hg; have NB884_836 := zr BK836 hg; have NB837_884 := zl BK837 hg; have NB884_837 := zr BK837 hg; have NB843_884 := zl BK843 hg; have NB884_843 := zr BK843 hg; have NB849_884 := zl BK849 hg; have NB884_849 := zr BK849 hg; have NB855_884 := zl BK855 hg; have NB884_855 := zr BK855 hg; have NB861_884 := zl BK861 hg; have NB884_861 := zr BK861 hg; have NB867_884 := zl BK867 hg; have NB884_867 := zr BK867 hg; have NB874_884 := zl BK874 hg; have NB884_874 := zr BK874 hg; have NB875_884 := zl BK875 hg; have NB884_875 := zr BK875 hg; replace BK836 := zb BK836 hb; replace BK837 := zb BK837 hb; replace BK843 := zb BK843 hb; replace BK849 := zb BK849 hb; replace BK855 := zb BK855 hb; replace BK861 := zb BK861 hb; replace BK867 := zb BK867 hb; replace BK874 := zb BK874 hb; replace BK875 := zb BK875 hb; replace HB := zh HB hb; clear HO832; have HO832 := n0_; clear n0_; clear HO841; have HO841 := n1_; clear n1_; clear HO847; have HO847 := n2_; clear n2_; clear HO853; have HO853 := n3_; clear n3_; clear HO859; have HO859 := n4_; clear n4_; clear HO865; have HO865 := n5_; clear n5_; clear hb hbox hg; replace hNB884_836 := NB884_836.out; replace hNB836_884 := NB836_884.out; replace hNB884_837 := NB884_837.out; replace hNB837_884 := NB837_884.out; replace hNB884_843 := NB884_843.out; replace hNB843_884 := NB843_884.out; replace hNB884_849 := NB884_849.out; replace hNB849_884 := NB849_884.out; replace hNB884_855 := NB884_855.out; replace hNB855_884 := NB855_884.out; replace hNB884_861 := NB884_861.out; replace hNB861_884 := NB861_884.out; replace hNB884_867 := NB884_867.out; replace hNB867_884 := NB867_884.out; replace hNB884_874 := NB884_874.out; replace hNB874_884 := NB874_884.out; replace hNB884_875 := NB884_875.out; replace hNB875_884 := NB875_884.out; replace hz884 := zc3 BK884))
               (try simp only [Act.put, List.setIfInBounds_toArray, List.set_cons_zero, List.set_cons_succ])
               go_cut [403] from 299 to 354 (fun v403 wc => ∃ (kq : Nat) (x403_210 : Bool), v403 = .bool x403_210 ∧ Aside0 (laws_FnLaddersHidden.j6 kq t842 t854 t860 x403_210 t829 t830 t833 t834 t835 t838 t839 t850 t851 t856 t857 = some r) ∧ Aside0 (kq ≤ kj176) ∧ Aside0 (Kd.R k39 39 wc w.heap.size (fun k_ => some k_ ≠ ((.slice Ao224 t839.length co224) : Value).ownBlock ∧ some k_ ≠ ((.slice Ao241 t851.length co241) : Value).ownBlock ∧ some k_ ≠ ((.slice Ao250 t857.length co250) : Value).ownBlock ∧ k_ ≠ gb837) (.slice Ao217 t830.length co217) t830) ∧ Aside0 (Kd.R k39 39 wc w.heap.size (fun k_ => some k_ ≠ ((.slice Ao217 t830.length co217) : Value).ownBlock ∧ some k_ ≠ ((.slice Ao241 t851.length co241) : Value).ownBlock ∧ some k_ ≠ ((.slice Ao250 t857.length co250) : Value).ownBlock ∧ k_ ≠ gb837) (.slice Ao224 t839.length co224) t839) ∧ Aside0 (Kd.R k39 39 wc w.heap.size (fun k_ => some k_ ≠ ((.slice Ao217 t830.length co217) : Value).ownBlock ∧ some k_ ≠ ((.slice Ao224 t839.length co224) : Value).ownBlock ∧ some k_ ≠ ((.slice Ao250 t857.length co250) : Value).ownBlock ∧ k_ ≠ gb837) (.slice Ao241 t851.length co241) t851) ∧ Aside0 (Kd.R k39 39 wc w.heap.size (fun k_ => some k_ ≠ ((.slice Ao217 t830.length co217) : Value).ownBlock ∧ some k_ ≠ ((.slice Ao224 t839.length co224) : Value).ownBlock ∧ some k_ ≠ ((.slice Ao241 t851.length co241) : Value).ownBlock ∧ k_ ≠ gb837) (.slice Ao250 t857.length co250) t857) ∧ Aside0 (wc.heap[gb836]? = some (.cells #[.int .i64 t829, (.slice Ao217 t830.length co217)] 30 (0, 0))) ∧ Aside0 (wc.heap[gb837]? = some (.cells #[.int .i64 t833, .int .i64 t834, .int .i64 t835] 39 (0, 0))) ∧ Aside0 (wc.heap[gb843]? = some (.cells #[.int .i64 t838, (.slice Ao224 t839.length co224)] 30 (0, 0))) ∧ Aside0 (wc.heap[gb855]? = some (.cells #[.int .i64 t850, (.slice Ao241 t851.length co241)] 30 (0, 0))) ∧ Aside0 (wc.heap[gb861]? = some (.cells #[.int .i64 t856, (.slice Ao250 t857.length co250)] 30 (0, 0))) ∧ Aside0 (Below w.heap.size w wc))
               case first =>
                 have H := HC211.out; clear HC211
                 by_cases c298 : (t842 != t848) = true
                 · rw [if_pos c298] at H
                   have c298b0 : (t842 != t848) = true := c298
                   (try (have c298b1 : decide (t842 = t848) = false := by simpa using c298))
                   (try (have c298b2 : (t842 == t848) = false := by simpa using c298))
                   (try (have c298b3 : ¬ (t842 = t848) := by simpa using c298))
                   clear c298
                   (first | rw [c298b0] | (simp only [i64_w, i32_w]; rw [c298b0]) | skip)
                   exact absurd (HR_.out.symm.trans (laws_FnLaddersHidden.j6_true _ _ _ _ _ _ _ _ _ _ _ _ _ _ _ _ H)) (by decide)
                 rw [if_neg c298] at H
                 have c298b0 : (t842 != t848) = false := by simpa using c298
                 (try (have c298b1 : decide (t842 = t848) = true := by simpa using c298))
                 (try (have c298b2 : (t842 == t848) = true := by simpa using c298))
                 clear c298
                 (first | rw [c298b0] | (simp only [i64_w, i32_w]; rw [c298b0]) | skip)
                 replace H := Option.bind_eq_some_iff.mp H; obtain ⟨t885, A3010, H⟩ := H; (try dsimp only at H); have A301 := Aside0.mk A3010; clear A3010
                 by_cases c302 : t885 = true
                 · subst c302
                   rw [if_pos rfl] at H
                   by_cases c303 : (t860 != t866) = true
                   · rw [if_pos c303] at H
                     have c303b0 : (t860 != t866) = true := c303
                     (try (have c303b1 : decide (t860 = t866) = false := by simpa using c303))
                     (try (have c303b2 : (t860 == t866) = false := by simpa using c303))
                     (try (have c303b3 : ¬ (t860 = t866) := by simpa using c303))
                     clear c303
                     exact absurd (HR_.out.symm.trans (laws_FnLaddersHidden.j6_true _ _ _ _ _ _ _ _ _ _ _ _ _ _ _ _ H)) (by decide)
                   rw [if_neg c303] at H
                   have c303b0 : (t860 != t866) = false := by simpa using c303
                   (try (have c303b1 : decide (t860 = t866) = true := by simpa using c303))
                   (try (have c303b2 : (t860 == t866) = true := by simpa using c303))
                   clear c303; replace H := Option.bind_eq_some_iff.mp H; obtain ⟨t886, A3070, H⟩ := H; (try dsimp only at H); have A307 := Aside0.mk A3070; clear A3070
                   by_cases c308 : t886 = true
                   · subst c308
                     rw [if_pos rfl] at H
                     by_cases c309 : (t877 != t879) = true
                     · rw [if_pos c309] at H
                       have c309b0 : (t877 != t879) = true := c309
                       (try (have c309b1 : decide (t877 = t879) = false := by simpa using c309))
                       (try (have c309b2 : (t877 == t879) = false := by simpa using c309))
                       (try (have c309b3 : ¬ (t877 = t879) := by simpa using c309))
                       clear c309
                       exact absurd (HR_.out.symm.trans (laws_FnLaddersHidden.j6_true _ _ _ _ _ _ _ _ _ _ _ _ _ _ _ _ H)) (by decide)
                     rw [if_neg c309] at H
                     have c309b0 : (t877 != t879) = false := by simpa using c309
                     (try (have c309b1 : decide (t877 = t879) = true := by simpa using c309))
                     (try (have c309b2 : (t877 == t879) = true := by simpa using c309))
                     clear c309
                     by_cases c314 : (t876 != t878) = true
                     · rw [if_pos c314] at H
                       have c314b0 : (t876 != t878) = true := c314
                       (try (have c314b1 : decide (t876 = t878) = false := by simpa using c314))
                       (try (have c314b2 : (t876 == t878) = false := by simpa using c314))
                       (try (have c314b3 : ¬ (t876 = t878) := by simpa using c314))
                       clear c314
                       exact absurd (HR_.out.symm.trans (laws_FnLaddersHidden.j6_true _ _ _ _ _ _ _ _ _ _ _ _ _ _ _ _ H)) (by decide)
                     rw [if_neg c314] at H
                     have c314b0 : (t876 != t878) = false := by simpa using c314
                     (try (have c314b1 : decide (t876 = t878) = true := by simpa using c314))
                     (try (have c314b2 : (t876 == t878) = true := by simpa using c314))
                     clear c314; replace H := Option.bind_eq_some_iff.mp H; obtain ⟨t887, A3190, H⟩ := H; (try dsimp only at H); have A319 := Aside0.mk A3190; clear A3190; replace H := Option.bind_eq_some_iff.mp H; obtain ⟨t888, A3200, H⟩ := H; (try dsimp only at H); have A320 := Aside0.mk A3200; clear A3200
                     by_cases c321 : (t887 != t888) = true
                     · rw [if_pos c321] at H
                       have c321b0 : (t887 != t888) = true := c321
                       (try (have c321b1 : decide (t887 = t888) = false := by simpa using c321))
                       (try (have c321b2 : (t887 == t888) = false := by simpa using c321))
                       (try (have c321b3 : ¬ (t887 = t888) := by simpa using c321))
                       clear c321
                       exact absurd (HR_.out.symm.trans (laws_FnLaddersHidden.j6_true _ _ _ _ _ _ _ _ _ _ _ _ _ _ _ _ H)) (by decide)
                     rw [if_neg c321] at H
                     have c321b0 : (t887 != t888) = false := by simpa using c321
                     (try (have c321b1 : decide (t887 = t888) = true := by simpa using c321))
                     (try (have c321b2 : (t887 == t888) = true := by simpa using c321))
                     clear c321
                     by_cases c328 : t877 = true
                     · subst c328
                       rw [if_pos rfl] at H; replace H := Option.bind_eq_some_iff.mp H; obtain ⟨t889, A3290, H⟩ := H
                       replace H : (laws_FnLaddersHidden.j6 kj176 t842 t854 t860 (!t889) t829 t830 t833 t834 t835 t838 t839 t850 t851 t856 t857) = some r := H
                       have A329 := Aside0.mk A3290; clear A3290; have H' := Aside0.mk H; clear H
                       as_aux_lemma =>
                        try go_wp2
                        have n0_ : Aside0 (Kd.R k39 39 (((w287.setCell ⟨gb884, 0, none⟩ (.int .i64 t881)).setCell ⟨gb884, 1, none⟩ (.int .i64 t882)).setCell ⟨gb884, 2, none⟩ (.int .i64 t883)) w.heap.size (fun k_ => some k_ ≠ (.slice Ao224 t839.length co224 : Value).ownBlock ∧ some k_ ≠ (.slice Ao233 t845.length co233 : Value).ownBlock ∧ some k_ ≠ (.slice Ao241 t851.length co241 : Value).ownBlock ∧ some k_ ≠ (.slice Ao250 t857.length co250 : Value).ownBlock ∧ some k_ ≠ (.slice Ao261 t863.length co261 : Value).ownBlock ∧ k_ ≠ gb837 ∧ k_ ≠ gb874 ∧ k_ ≠ gb884) (.slice Ao217 t830.length co217) t830) := ⟨by (with_reducible repeat (first | apply Kd.R_alloc | apply Kd.R_drewN | apply Kd.R_drew)); exact Kd.R_mono (Kd.R_far (p := ⟨gb884, 2, none⟩) (Kd.R_far (p := ⟨gb884, 1, none⟩) (Kd.R_far (p := ⟨gb884, 0, none⟩) (Kd.R_mono HO832.out (fun k_ hk => (⟨hk, hk.2⟩ : _ ∧ k_ ≠ gb884))) (fun _ hk => hk.2) (.int .i64 t881)) (fun _ hk => hk.2) (.int .i64 t882)) (fun _ hk => hk.2) (.int .i64 t883)) (fun _ hk => ⟨hk.1.1.1.1.1.1.1.2, ⟨hk.1.1.1.1.1.1.2, ⟨hk.1.1.1.1.1.2, ⟨hk.1.1.1.1.2, ⟨hk.1.1.1.2, ⟨hk.1.1.1.1.1.1.1.1.2, ⟨hk.1.1.2, hk.1.2⟩⟩⟩⟩⟩⟩⟩)⟩
                        have n1_ : Aside0 (Kd.R k39 39 (((w287.setCell ⟨gb884, 0, none⟩ (.int .i64 t881)).setCell ⟨gb884, 1, none⟩ (.int .i64 t882)).setCell ⟨gb884, 2, none⟩ (.int .i64 t883)) w.heap.size (fun k_ => some k_ ≠ (.slice Ao217 t830.length co217 : Value).ownBlock ∧ some k_ ≠ (.slice Ao233 t845.length co233 : Value).ownBlock ∧ some k_ ≠ (.slice Ao241 t851.length co241 : Value).ownBlock ∧ some k_ ≠ (.slice Ao250 t857.length co250 : Value).ownBlock ∧ some k_ ≠ (.slice Ao261 t863.length co261 : Value).ownBlock ∧ k_ ≠ gb837 ∧ k_ ≠ gb874 ∧ k_ ≠ gb884) (.slice Ao224 t839.length co224) t839) := ⟨by (with_reducible repeat (first | apply Kd.R_alloc | apply Kd.R_drewN | apply Kd.R_drew)); exact Kd.R_mono (Kd.R_far (p := ⟨gb884, 2, none⟩) (Kd.R_far (p := ⟨gb884, 1, none⟩) (Kd.R_far (p := ⟨gb884, 0, none⟩) (Kd.R_mono HO841.out (fun k_ hk => (⟨hk, hk.2⟩ : _ ∧ k_ ≠ gb884))) (fun _ hk => hk.2) (.int .i64 t881)) (fun _ hk => hk.2) (.int .i64 t882)) (fun _ hk => hk.2) (.int .i64 t883)) (fun _ hk => ⟨hk.1.1.1.1.1.1.1.1.2, ⟨hk.1.1.1.1.1.1.2, ⟨hk.1.1.1.1.1.2, ⟨hk.1.1.1.1.2, ⟨hk.1.1.1.2, ⟨hk.1.1.1.1.1.1.1.2, ⟨hk.1.1.2, hk.1.2⟩⟩⟩⟩⟩⟩⟩)⟩
                        have n2_ : Aside0 (Kd.R k39 39 (((w287.setCell ⟨gb884, 0, none⟩ (.int .i64 t881)).setCell ⟨gb884, 1, none⟩ (.int .i64 t882)).setCell ⟨gb884, 2, none⟩ (.int .i64 t883)) w.heap.size (fun k_ => some k_ ≠ (.slice Ao217 t830.length co217 : Value).ownBlock ∧ some k_ ≠ (.slice Ao224 t839.length co224 : Value).ownBlock ∧ some k_ ≠ (.slice Ao241 t851.length co241 : Value).ownBlock ∧ some k_ ≠ (.slice Ao250 t857.length co250 : Value).ownBlock ∧ some k_ ≠ (.slice Ao261 t863.length co261 : Value).ownBlock ∧ k_ ≠ gb837 ∧ k_ ≠ gb874 ∧ k_ ≠ gb884) (.slice Ao233 t845.length co233) t845) := ⟨by (with_reducible repeat (first | apply Kd.R_alloc | apply Kd.R_drewN | apply Kd.R_drew)); exact Kd.R_mono (Kd.R_far (p := ⟨gb884, 2, none⟩) (Kd.R_far (p := ⟨gb884, 1, none⟩) (Kd.R_far (p := ⟨gb884, 0, none⟩) (Kd.R_mono HO847.out (fun k_ hk => (⟨hk, hk.2⟩ : _ ∧ k_ ≠ gb884))) (fun _ hk => hk.2) (.int .i64 t881)) (fun _ hk => hk.2) (.int .i64 t882)) (fun _ hk => hk.2) (.int .i64 t883)) (fun _ hk => ⟨hk.1.1.1.1.1.1.1.1.2, ⟨hk.1.1.1.1.1.1.1.2, ⟨hk.1.1.1.1.1.2, ⟨hk.1.1.1.1.2, ⟨hk.1.1.1.2, ⟨hk.1.1.1.1.1.1.2, ⟨hk.1.1.2, hk.1.2⟩⟩⟩⟩⟩⟩⟩)⟩
                        have n3_ : Aside0 (Kd.R k39 39 (((w287.setCell ⟨gb884, 0, none⟩ (.int .i64 t881)).setCell ⟨gb884, 1, none⟩ (.int .i64 t882)).setCell ⟨gb884, 2, none⟩ (.int .i64 t883)) w.heap.size (fun k_ => some k_ ≠ (.slice Ao217 t830.length co217 : Value).ownBlock ∧ some k_ ≠ (.slice Ao224 t839.length co224 : Value).ownBlock ∧ some k_ ≠ (.slice Ao233 t845.length co233 : Value).ownBlock ∧ some k_ ≠ (.slice Ao250 t857.length co250 : Value).ownBlock ∧ some k_ ≠ (.slice Ao261 t863.length co261 : Value).ownBlock ∧ k_ ≠ gb837 ∧ k_ ≠ gb874 ∧ k_ ≠ gb884) (.slice Ao241 t851.length co241) t851) := ⟨by (with_reducible repeat (first | apply Kd.R_alloc | apply Kd.R_drewN | apply Kd.R_drew)); exact Kd.R_mono (Kd.R_far (p := ⟨gb884, 2, none⟩) (Kd.R_far (p := ⟨gb884, 1, none⟩) (Kd.R_far (p := ⟨gb884, 0, none⟩) (Kd.R_mono HO853.out (fun k_ hk => (⟨hk, hk.2⟩ : _ ∧ k_ ≠ gb884))) (fun _ hk => hk.2) (.int .i64 t881)) (fun _ hk => hk.2) (.int .i64 t882)) (fun _ hk => hk.2) (.int .i64 t883)) (fun _ hk => ⟨hk.1.1.1.1.1.1.1.1.2, ⟨hk.1.1.1.1.1.1.1.2, ⟨hk.1.1.1.1.1.1.2, ⟨hk.1.1.1.1.2, ⟨hk.1.1.1.2, ⟨hk.1.1.1.1.1.2, ⟨hk.1.1.2, hk.1.2⟩⟩⟩⟩⟩⟩⟩)⟩
                        have n4_ : Aside0 (Kd.R k39 39 (((w287.setCell ⟨gb884, 0, none⟩ (.int .i64 t881)).setCell ⟨gb884, 1, none⟩ (.int .i64 t882)).setCell ⟨gb884, 2, none⟩ (.int .i64 t883)) w.heap.size (fun k_ => some k_ ≠ (.slice Ao217 t830.length co217 : Value).ownBlock ∧ some k_ ≠ (.slice Ao224 t839.length co224 : Value).ownBlock ∧ some k_ ≠ (.slice Ao233 t845.length co233 : Value).ownBlock ∧ some k_ ≠ (.slice Ao241 t851.length co241 : Value).ownBlock ∧ some k_ ≠ (.slice Ao261 t863.length co261 : Value).ownBlock ∧ k_ ≠ gb837 ∧ k_ ≠ gb874 ∧ k_ ≠ gb884) (.slice Ao250 t857.length co250) t857) := ⟨by (with_reducible repeat (first | apply Kd.R_alloc | apply Kd.R_drewN | apply Kd.R_drew)); exact Kd.R_mono (Kd.R_far (p := ⟨gb884, 2, none⟩) (Kd.R_far (p := ⟨gb884, 1, none⟩) (Kd.R_far (p := ⟨gb884, 0, none⟩) (Kd.R_mono HO859.out (fun k_ hk => (⟨hk, hk.2⟩ : _ ∧ k_ ≠ gb884))) (fun _ hk => hk.2) (.int .i64 t881)) (fun _ hk => hk.2) (.int .i64 t882)) (fun _ hk => hk.2) (.int .i64 t883)) (fun _ hk => ⟨hk.1.1.1.1.1.1.1.1.2, ⟨hk.1.1.1.1.1.1.1.2, ⟨hk.1.1.1.1.1.1.2, ⟨hk.1.1.1.1.1.2, ⟨hk.1.1.1.2, ⟨hk.1.1.1.1.2, ⟨hk.1.1.2, hk.1.2⟩⟩⟩⟩⟩⟩⟩)⟩
                        have n5_ : Aside0 (Kd.R k39 39 (((w287.setCell ⟨gb884, 0, none⟩ (.int .i64 t881)).setCell ⟨gb884, 1, none⟩ (.int .i64 t882)).setCell ⟨gb884, 2, none⟩ (.int .i64 t883)) w.heap.size (fun k_ => some k_ ≠ (.slice Ao217 t830.length co217 : Value).ownBlock ∧ some k_ ≠ (.slice Ao224 t839.length co224 : Value).ownBlock ∧ some k_ ≠ (.slice Ao233 t845.length co233 : Value).ownBlock ∧ some k_ ≠ (.slice Ao241 t851.length co241 : Value).ownBlock ∧ some k_ ≠ (.slice Ao250 t857.length co250 : Value).ownBlock ∧ k_ ≠ gb837 ∧ k_ ≠ gb874 ∧ k_ ≠ gb884) (.slice Ao261 t863.length co261) t863) := ⟨by (with_reducible repeat (first | apply Kd.R_alloc | apply Kd.R_drewN | apply Kd.R_drew)); exact Kd.R_mono (Kd.R_far (p := ⟨gb884, 2, none⟩) (Kd.R_far (p := ⟨gb884, 1, none⟩) (Kd.R_far (p := ⟨gb884, 0, none⟩) (Kd.R_mono HO865.out (fun k_ hk => (⟨hk, hk.2⟩ : _ ∧ k_ ≠ gb884))) (fun _ hk => hk.2) (.int .i64 t881)) (fun _ hk => hk.2) (.int .i64 t882)) (fun _ hk => hk.2) (.int .i64 t883)) (fun _ hk => ⟨hk.1.1.1.1.1.1.1.1.2, ⟨hk.1.1.1.1.1.1.1.2, ⟨hk.1.1.1.1.1.1.2, ⟨hk.1.1.1.1.1.2, ⟨hk.1.1.1.1.2, ⟨hk.1.1.1.2, ⟨hk.1.1.2, hk.1.2⟩⟩⟩⟩⟩⟩⟩)⟩
                        have n6_ : Aside0 ((((w287.setCell ⟨gb884, 0, none⟩ (.int .i64 t881)).setCell ⟨gb884, 1, none⟩ (.int .i64 t882)).setCell ⟨gb884, 2, none⟩ (.int .i64 t883)).heap[gb836]? = some (.cells #[.int .i64 t829, .slice Ao217 t830.length co217] 30 (0, 0))) := ⟨zw BK836⟩
                        have n7_ : Aside0 ((((w287.setCell ⟨gb884, 0, none⟩ (.int .i64 t881)).setCell ⟨gb884, 1, none⟩ (.int .i64 t882)).setCell ⟨gb884, 2, none⟩ (.int .i64 t883)).heap[gb837]? = some (.cells #[.int .i64 t833, .int .i64 t834, .int .i64 t835] 39 (0, 0))) := ⟨zw BK837⟩
                        have n8_ : Aside0 ((((w287.setCell ⟨gb884, 0, none⟩ (.int .i64 t881)).setCell ⟨gb884, 1, none⟩ (.int .i64 t882)).setCell ⟨gb884, 2, none⟩ (.int .i64 t883)).heap[gb843]? = some (.cells #[.int .i64 t838, .slice Ao224 t839.length co224] 30 (0, 0))) := ⟨zw BK843⟩
                        have n9_ : Aside0 ((((w287.setCell ⟨gb884, 0, none⟩ (.int .i64 t881)).setCell ⟨gb884, 1, none⟩ (.int .i64 t882)).setCell ⟨gb884, 2, none⟩ (.int .i64 t883)).heap[gb849]? = some (.cells #[.int .i64 t844, .slice Ao233 t845.length co233] 30 (0, 0))) := ⟨zw BK849⟩
                        have n10_ : Aside0 ((((w287.setCell ⟨gb884, 0, none⟩ (.int .i64 t881)).setCell ⟨gb884, 1, none⟩ (.int .i64 t882)).setCell ⟨gb884, 2, none⟩ (.int .i64 t883)).heap[gb855]? = some (.cells #[.int .i64 t850, .slice Ao241 t851.length co241] 30 (0, 0))) := ⟨zw BK855⟩
                        have n11_ : Aside0 ((((w287.setCell ⟨gb884, 0, none⟩ (.int .i64 t881)).setCell ⟨gb884, 1, none⟩ (.int .i64 t882)).setCell ⟨gb884, 2, none⟩ (.int .i64 t883)).heap[gb861]? = some (.cells #[.int .i64 t856, .slice Ao250 t857.length co250] 30 (0, 0))) := ⟨zw BK861⟩
                        have n12_ : Aside0 ((((w287.setCell ⟨gb884, 0, none⟩ (.int .i64 t881)).setCell ⟨gb884, 1, none⟩ (.int .i64 t882)).setCell ⟨gb884, 2, none⟩ (.int .i64 t883)).heap[gb867]? = some (.cells #[.int .i64 t862, .slice Ao261 t863.length co261] 30 (0, 0))) := ⟨zw BK867⟩
                        have n13_ : Aside0 ((((w287.setCell ⟨gb884, 0, none⟩ (.int .i64 t881)).setCell ⟨gb884, 1, none⟩ (.int .i64 t882)).setCell ⟨gb884, 2, none⟩ (.int .i64 t883)).heap[gb874]? = some (.cells #[.int .i64 t868, .int .i64 t869, .int .i64 t870] 39 (0, 0))) := ⟨zw BK874⟩
                        have n14_ : Aside0 ((((w287.setCell ⟨gb884, 0, none⟩ (.int .i64 t881)).setCell ⟨gb884, 1, none⟩ (.int .i64 t882)).setCell ⟨gb884, 2, none⟩ (.int .i64 t883)).heap[gb875]? = some (.cells #[.int .i64 t871, .int .i64 t872, .int .i64 t873] 25 (0, 0))) := ⟨zw BK875⟩
                        have n15_ : Aside0 ((((w287.setCell ⟨gb884, 0, none⟩ (.int .i64 t881)).setCell ⟨gb884, 1, none⟩ (.int .i64 t882)).setCell ⟨gb884, 2, none⟩ (.int .i64 t883)).heap[gb884]? = some (.cells #[.int .i64 t881, .int .i64 t882, .int .i64 t883] 39 (0, 0))) := ⟨zw BK884⟩
                        have n16_ : Aside0 (Below w.heap.size w (((w287.setCell ⟨gb884, 0, none⟩ (.int .i64 t881)).setCell ⟨gb884, 1, none⟩ (.int .i64 t882)).setCell ⟨gb884, 2, none⟩ (.int .i64 t883))) := ⟨zy HB⟩
                        (try clear HO832)
                        (try clear HO841)
                        (try clear HO847)
                        (try clear HO853)
                        (try clear HO859)
                        (try clear HO865)
                        (try clear BK836)
                        (try clear BK837)
                        (try clear BK843)
                        (try clear BK849)
                        (try clear BK855)
                        (try clear BK861)
                        (try clear BK867)
                        (try clear BK874)
                        (try clear BK875)
                        (try clear BK884)
                        (try clear HB)
                        generalize (((w287.setCell ⟨gb884, 0, none⟩ (.int .i64 t881)).setCell ⟨gb884, 1, none⟩ (.int .i64 t882)).setCell ⟨gb884, 2, none⟩ (.int .i64 t883)) = w330 at n0_ n1_ n2_ n3_ n4_ n5_ n6_ n7_ n8_ n9_ n10_ n11_ n12_ n13_ n14_ n15_ n16_ ⊢
                        have HO832 := n0_; have HO841 := n1_; have HO847 := n2_; have HO853 := n3_; have HO859 := n4_; have HO865 := n5_; have BK836 := n6_; have BK837 := n7_; have BK843 := n8_; have BK849 := n9_; have BK855 := n10_; have BK861 := n11_; have BK867 := n12_; have BK874 := n13_; have BK875 := n14_; have BK884 := n15_; have HB := n16_; clear n0_ n1_ n2_ n3_ n4_ n5_ n6_ n7_ n8_ n9_ n10_ n11_ n12_ n13_ n14_ n15_ n16_; replace HO832 := Aside0.mk (Kd.R_drew HO832.out); replace HO841 := Aside0.mk (Kd.R_drew HO841.out); replace HO847 := Aside0.mk (Kd.R_drew HO847.out); replace HO853 := Aside0.mk (Kd.R_drew HO853.out); replace HO859 := Aside0.mk (Kd.R_drew HO859.out); replace HO865 := Aside0.mk (Kd.R_drew HO865.out); replace BK836 := Aside0.mk (blk_drew BK836.out); replace BK837 := Aside0.mk (blk_drew BK837.out); replace BK843 := Aside0.mk (blk_drew BK843.out); replace BK849 := Aside0.mk (blk_drew BK849.out); replace BK855 := Aside0.mk (blk_drew BK855.out); replace BK861 := Aside0.mk (blk_drew BK861.out); replace BK867 := Aside0.mk (blk_drew BK867.out); replace BK874 := Aside0.mk (blk_drew BK874.out); replace BK875 := Aside0.mk (blk_drew BK875.out); replace BK884 := Aside0.mk (blk_drew BK884.out); replace HB := Aside0.mk (below_drew1 HB.out)
                        refine start_ (n := 49) (S := fun w' => w'.cell? ⟨gb843, 0, none⟩ = some (.int .i64 t838) ∧ w'.cell? ⟨gb843, 1, none⟩ = some (.slice Ao224 t839.length co224) ∧ w'.cell? ⟨gb849, 0, none⟩ = some (.int .i64 t844) ∧ w'.cell? ⟨gb849, 1, none⟩ = some (.slice Ao233 t845.length co233) ∧ w'.cell? ⟨gb861, 0, none⟩ = some (.int .i64 t856) ∧ w'.cell? ⟨gb861, 1, none⟩ = some (.slice Ao250 t857.length co250) ∧ w'.cell? ⟨gb867, 0, none⟩ = some (.int .i64 t862) ∧ w'.cell? ⟨gb867, 1, none⟩ = some (.slice Ao261 t863.length co261) ∧ w'.cell? ⟨gb884, 0, none⟩ = some (.int .i64 t881) ∧ w'.cell? ⟨gb884, 1, none⟩ = some (.int .i64 t882) ∧ w'.cell? ⟨gb884, 2, none⟩ = some (.int .i64 t883) ∧ w'.cell? ⟨gb875, 0, none⟩ = some (.int .i64 t871) ∧ w'.cell? ⟨gb875, 1, none⟩ = some (.int .i64 t872) ∧ w'.cell? ⟨gb875, 2, none⟩ = some (.int .i64 t873) ∧ w'.cell? ⟨gb874, 0, none⟩ = some (.int .i64 t868) ∧ w'.cell? ⟨gb874, 1, none⟩ = some (.int .i64 t869) ∧ w'.cell? ⟨gb874, 2, none⟩ = some (.int .i64 t870)) (ds := []) #[false, false, false, false, false, false, false, false, false, false, false, false, false, false, false, false, false, false, false, false, false, false, false, false, false, false, false, false, false, false, false, false, false, false, false, false, false, false, false, false, false, false, false, false, false, false, false, false, false] (by kernel_rfl) rfl rfl ⟨(blk_cell BK843.out 0).trans rfl, (blk_cell BK843.out 1).trans rfl, (blk_cell BK849.out 0).trans rfl, (blk_cell BK849.out 1).trans rfl, (blk_cell BK861.out 0).trans rfl, (blk_cell BK861.out 1).trans rfl, (blk_cell BK867.out 0).trans rfl, (blk_cell BK867.out 1).trans rfl, (blk_cell BK884.out 0).trans rfl, (blk_cell BK884.out 1).trans rfl, (blk_cell BK884.out 2).trans rfl, (blk_cell BK875.out 0).trans rfl, (blk_cell BK875.out 1).trans rfl, (blk_cell BK875.out 2).trans rfl, (blk_cell BK874.out 0).trans rfl, (blk_cell BK874.out 1).trans rfl, (blk_cell BK874.out 2).trans rfl⟩ (fun hHeld => ?_); refine with_tabW laws_FnLaddersHidden.tab47 laws_FnLaddersHidden.bits47 (fun HT_ HW_ => ?_)
                        generalize w330.drew = w331 at HO832 HO841 HO847 HO853 HO859 HO865 BK836 BK837 BK843 BK849 BK855 BK861 BK867 BK874 BK875 BK884 HB hHeld ⊢
                        refine zA 0 355 HT_ ?_
                        refine zA 1 356 HT_ ?_
                        refine zA 2 357 HT_ ?_
                        refine zA 3 358 HT_ ?_
                        refine zT 4 359 HT_ HW_ hHeld ?_
                        refine zT 5 360 HT_ HW_ hHeld ?_
                        refine zO 6 (some 361) HT_ (fun K hK => ?_)
                        refine goes_ Try.func8 (by kernel_rfl) rfl #[.agg #[.int .i64 t838, .slice Ao224 t839.length co224], .agg #[.int .i64 t844, .slice Ao233 t845.length co233]] (by rfl) rfl rfl zO4_3 ?_
                        with_reducible refine (laws_jPuzzle.calls kj176 t838 _ _ t839 t844 _ _ t845 true _ ?side1 ?side2 ?side3 ?side4 A301.out).mono ?_
                        (case side1 => repeat (first | exact (Kd.R_reads' HO841.out).2.2 | (with_reducible refine Kd.C_alloc ?_ _) | (with_reducible refine Kd.C_drewN ?_ _) | (with_reducible refine Kd.C_drew ?_)))
                        (case side2 => exact (Kd.R_reads' HO841.out).2.1)
                        (case side3 => repeat (first | exact (Kd.R_reads' HO847.out).2.2 | (with_reducible refine Kd.C_alloc ?_ _) | (with_reducible refine Kd.C_drewN ?_ _) | (with_reducible refine Kd.C_drew ?_)))
                        (case side4 => exact (Kd.R_reads' HO847.out).2.1)
                        rintro e w332 ⟨rfl, hb⟩
                        refine ⟨_, rfl, ?_⟩
                        replace HO832 := zo HO832 hb; replace HO841 := zo HO841 hb; replace HO847 := zo HO847 hb; replace HO853 := zo HO853 hb; replace HO859 := zo HO859 hb; replace HO865 := zo HO865 hb; replace BK836 := zb BK836 hb; replace BK837 := zb BK837 hb; replace BK843 := zb BK843 hb; replace BK849 := zb BK849 hb; replace BK855 := zb BK855 hb; replace BK861 := zb BK861 hb; replace BK867 := zb BK867 hb; replace BK874 := zb BK874 hb; replace BK875 := zb BK875 hb; replace BK884 := zb BK884 hb; replace HB := zh HB hb
                        (try clear hb)
                        (try clear hb2)
                        (try clear hk)
                        (try clear hi)
                        refine hK.out _ _ ⟨(blk_cell BK843.out 0).trans rfl, (blk_cell BK843.out 1).trans rfl, (blk_cell BK849.out 0).trans rfl, (blk_cell BK849.out 1).trans rfl, (blk_cell BK861.out 0).trans rfl, (blk_cell BK861.out 1).trans rfl, (blk_cell BK867.out 0).trans rfl, (blk_cell BK867.out 1).trans rfl, (blk_cell BK884.out 0).trans rfl, (blk_cell BK884.out 1).trans rfl, (blk_cell BK884.out 2).trans rfl, (blk_cell BK875.out 0).trans rfl, (blk_cell BK875.out 1).trans rfl, (blk_cell BK875.out 2).trans rfl, (blk_cell BK874.out 0).trans rfl, (blk_cell BK874.out 1).trans rfl, (blk_cell BK874.out 2).trans rfl⟩ (fun hHeld => ?_)
                        clear hK K
                        refine zN 361 ?_
                        refine zA 7 362 HT_ ?_
                        refine zA 8 363 HT_ ?_
                        refine zA 9 364 HT_ ?_
                        refine zA 10 365 HT_ ?_
                        refine zA 11 366 HT_ ?_
                        refine zA 12 367 HT_ ?_
                        refine zA 13 368 HT_ ?_
                        refine zA 14 369 HT_ ?_
                        refine zT 15 370 HT_ HW_ hHeld ?_
                        refine zT 16 371 HT_ HW_ hHeld ?_
                        refine zO 17 (some 372) HT_ (fun K hK => ?_)
                        refine goes_ Try.func8 (by kernel_rfl) rfl #[.agg #[.int .i64 t856, .slice Ao250 t857.length co250], .agg #[.int .i64 t862, .slice Ao261 t863.length co261]] (by rfl) rfl rfl zO4_3 ?_
                        with_reducible refine (laws_jPuzzle.calls kj176 t856 _ _ t857 t862 _ _ t863 true _ ?side1 ?side2 ?side3 ?side4 A307.out).mono ?_
                        (case side1 => repeat (first | exact (Kd.R_reads' HO859.out).2.2 | (with_reducible refine Kd.C_alloc ?_ _) | (with_reducible refine Kd.C_drewN ?_ _) | (with_reducible refine Kd.C_drew ?_)))
                        (case side2 => exact (Kd.R_reads' HO859.out).2.1)
                        (case side3 => repeat (first | exact (Kd.R_reads' HO865.out).2.2 | (with_reducible refine Kd.C_alloc ?_ _) | (with_reducible refine Kd.C_drewN ?_ _) | (with_reducible refine Kd.C_drew ?_)))
                        (case side4 => exact (Kd.R_reads' HO865.out).2.1)
                        rintro e w333 ⟨rfl, hb⟩
                        refine ⟨_, rfl, ?_⟩
                        replace HO832 := zo HO832 hb; replace HO841 := zo HO841 hb; replace HO847 := zo HO847 hb; replace HO853 := zo HO853 hb; replace HO859 := zo HO859 hb; replace HO865 := zo HO865 hb; replace BK836 := zb BK836 hb; replace BK837 := zb BK837 hb; replace BK843 := zb BK843 hb; replace BK849 := zb BK849 hb; replace BK855 := zb BK855 hb; replace BK861 := zb BK861 hb; replace BK867 := zb BK867 hb; replace BK874 := zb BK874 hb; replace BK875 := zb BK875 hb; replace BK884 := zb BK884 hb; replace HB := zh HB hb
                        (try clear hb)
                        (try clear hb2)
                        (try clear hk)
                        (try clear hi)
                        refine hK.out _ _ ⟨(blk_cell BK843.out 0).trans rfl, (blk_cell BK843.out 1).trans rfl, (blk_cell BK849.out 0).trans rfl, (blk_cell BK849.out 1).trans rfl, (blk_cell BK861.out 0).trans rfl, (blk_cell BK861.out 1).trans rfl, (blk_cell BK867.out 0).trans rfl, (blk_cell BK867.out 1).trans rfl, (blk_cell BK884.out 0).trans rfl, (blk_cell BK884.out 1).trans rfl, (blk_cell BK884.out 2).trans rfl, (blk_cell BK875.out 0).trans rfl, (blk_cell BK875.out 1).trans rfl, (blk_cell BK875.out 2).trans rfl, (blk_cell BK874.out 0).trans rfl, (blk_cell BK874.out 1).trans rfl, (blk_cell BK874.out 2).trans rfl⟩ (fun hHeld => ?_)
                        clear hK K
                        refine zN 372 ?_
                        refine zA 18 373 HT_ ?_
                        refine zA 19 374 HT_ ?_
                        refine zA 20 375 HT_ ?_
                        refine zA 21 376 HT_ ?_
                        refine zA 22 377 HT_ ?_
                        refine zA 23 378 HT_ ?_
                        refine zA 24 379 HT_ ?_
                        refine zA 25 380 HT_ ?_
                        refine zA 26 381 HT_ ?_
                        refine zA 27 382 HT_ ?_
                        refine zA 28 383 HT_ ?_
                        refine zA 29 384 HT_ ?_
                        refine zA 30 385 HT_ ?_
                        refine zA 31 386 HT_ ?_
                        refine zA 34 389 HT_ ?_
                        refine zT 32 387 HT_ HW_ hHeld ?_
                        refine zT 35 390 HT_ HW_ hHeld ?_
                        refine zO 33 (some 388) HT_ (fun K hK => ?_)
                        refine goes_ Try.func30 (by kernel_rfl) rfl #[.int .i64 t880, .agg #[.int .i64 t881, .int .i64 t882, .int .i64 t883]] (by rfl) rfl rfl zO4_3 ?_
                        with_reducible refine (impl_IsClue.calls kj176 t880 t881 t882 t883 t887 _ A319.out).mono ?_
                        rintro e w334 ⟨rfl, hb⟩
                        refine ⟨_, rfl, ?_⟩
                        replace HO832 := zo HO832 hb; replace HO841 := zo HO841 hb; replace HO847 := zo HO847 hb; replace HO853 := zo HO853 hb; replace HO859 := zo HO859 hb; replace HO865 := zo HO865 hb; replace BK836 := zb BK836 hb; replace BK837 := zb BK837 hb; replace BK843 := zb BK843 hb; replace BK849 := zb BK849 hb; replace BK855 := zb BK855 hb; replace BK861 := zb BK861 hb; replace BK867 := zb BK867 hb; replace BK874 := zb BK874 hb; replace BK875 := zb BK875 hb; replace BK884 := zb BK884 hb; replace HB := zh HB hb
                        (try clear hb)
                        (try clear hb2)
                        (try clear hk)
                        (try clear hi)
                        refine hK.out _ _ ⟨(blk_cell BK843.out 0).trans rfl, (blk_cell BK843.out 1).trans rfl, (blk_cell BK849.out 0).trans rfl, (blk_cell BK849.out 1).trans rfl, (blk_cell BK861.out 0).trans rfl, (blk_cell BK861.out 1).trans rfl, (blk_cell BK867.out 0).trans rfl, (blk_cell BK867.out 1).trans rfl, (blk_cell BK884.out 0).trans rfl, (blk_cell BK884.out 1).trans rfl, (blk_cell BK884.out 2).trans rfl, (blk_cell BK875.out 0).trans rfl, (blk_cell BK875.out 1).trans rfl, (blk_cell BK875.out 2).trans rfl, (blk_cell BK874.out 0).trans rfl, (blk_cell BK874.out 1).trans rfl, (blk_cell BK874.out 2).trans rfl⟩ (fun hHeld => ?_)
                        clear hK K
                        refine zN 388 ?_
                        refine zO 36 (some 391) HT_ (fun K hK => ?_)
                        refine goes_ Try.func31 (by kernel_rfl) rfl #[.int .i64 t880, .agg #[.int .i64 t881, .int .i64 t882, .int .i64 t883]] (by rfl) rfl rfl zO4_3 ?_
                        with_reducible refine (spec_IsClue.calls kj176 t880 t881 t882 t883 t888 _ A320.out).mono ?_
                        rintro e w335 ⟨rfl, hb⟩
                        refine ⟨_, rfl, ?_⟩
                        replace HO832 := zo HO832 hb; replace HO841 := zo HO841 hb; replace HO847 := zo HO847 hb; replace HO853 := zo HO853 hb; replace HO859 := zo HO859 hb; replace HO865 := zo HO865 hb; replace BK836 := zb BK836 hb; replace BK837 := zb BK837 hb; replace BK843 := zb BK843 hb; replace BK849 := zb BK849 hb; replace BK855 := zb BK855 hb; replace BK861 := zb BK861 hb; replace BK867 := zb BK867 hb; replace BK874 := zb BK874 hb; replace BK875 := zb BK875 hb; replace BK884 := zb BK884 hb; replace HB := zh HB hb
                        (try clear hb)
                        (try clear hb2)
                        (try clear hk)
                        (try clear hi)
                        refine hK.out _ _ ⟨(blk_cell BK843.out 0).trans rfl, (blk_cell BK843.out 1).trans rfl, (blk_cell BK849.out 0).trans rfl, (blk_cell BK849.out 1).trans rfl, (blk_cell BK861.out 0).trans rfl, (blk_cell BK861.out 1).trans rfl, (blk_cell BK867.out 0).trans rfl, (blk_cell BK867.out 1).trans rfl, (blk_cell BK884.out 0).trans rfl, (blk_cell BK884.out 1).trans rfl, (blk_cell BK884.out 2).trans rfl, (blk_cell BK875.out 0).trans rfl, (blk_cell BK875.out 1).trans rfl, (blk_cell BK875.out 2).trans rfl, (blk_cell BK874.out 0).trans rfl, (blk_cell BK874.out 1).trans rfl, (blk_cell BK874.out 2).trans rfl⟩ (fun hHeld => ?_)
                        clear hK K
                        refine zN 391 ?_
                        refine zA 37 392 HT_ ?_
                        refine zA 38 393 HT_ ?_
                        refine zA 39 394 HT_ ?_
                        refine zA 40 395 HT_ ?_
                        refine zA 41 396 HT_ ?_
                        refine zA 42 397 HT_ ?_
                        refine zT 43 398 HT_ HW_ hHeld ?_
                        refine zT 44 399 HT_ HW_ hHeld ?_
                        refine zO 45 (some 400) HT_ (fun K hK => ?_)
                        refine goes_ Try.func30 (by kernel_rfl) rfl #[.int .i64 t871, .agg #[.int .i64 t868, .int .i64 t869, .int .i64 t870]] (by rfl) rfl rfl zO4_3 ?_
                        with_reducible refine (impl_IsClue.calls kj176 t871 t868 t869 t870 t889 _ A329.out).mono ?_
                        rintro e w336 ⟨rfl, hb⟩
                        refine ⟨_, rfl, ?_⟩
                        replace HO832 := zo HO832 hb; replace HO841 := zo HO841 hb; replace HO847 := zo HO847 hb; replace HO853 := zo HO853 hb; replace HO859 := zo HO859 hb; replace HO865 := zo HO865 hb; replace BK836 := zb BK836 hb; replace BK837 := zb BK837 hb; replace BK843 := zb BK843 hb; replace BK849 := zb BK849 hb; replace BK855 := zb BK855 hb; replace BK861 := zb BK861 hb; replace BK867 := zb BK867 hb; replace BK874 := zb BK874 hb; replace BK875 := zb BK875 hb; replace BK884 := zb BK884 hb; replace HB := zh HB hb
                        (try clear hb)
                        (try clear hb2)
                        (try clear hk)
                        (try clear hi)
                        refine hK.out _ _ ⟨(blk_cell BK843.out 0).trans rfl, (blk_cell BK843.out 1).trans rfl, (blk_cell BK849.out 0).trans rfl, (blk_cell BK849.out 1).trans rfl, (blk_cell BK861.out 0).trans rfl, (blk_cell BK861.out 1).trans rfl, (blk_cell BK867.out 0).trans rfl, (blk_cell BK867.out 1).trans rfl, (blk_cell BK884.out 0).trans rfl, (blk_cell BK884.out 1).trans rfl, (blk_cell BK884.out 2).trans rfl, (blk_cell BK875.out 0).trans rfl, (blk_cell BK875.out 1).trans rfl, (blk_cell BK875.out 2).trans rfl, (blk_cell BK874.out 0).trans rfl, (blk_cell BK874.out 1).trans rfl, (blk_cell BK874.out 2).trans rfl⟩ (fun hHeld => ?_)
                        clear hK K
                        refine zN 400 ?_
                        refine zA 46 401 HT_ ?_
                        refine zA 47 402 HT_ ?_
                        refine zA 48 403 HT_ ?_
                        refine done_ (done_of HT_.out (by kernel_rfl)) ?_
                        try go_wp2
                        go_meet
                        case rel => exact ⟨_, (!t889), zu, H', ⟨by have := HJ7.out; have := HJ32.out; have := HJ134.out; have := HJ176.out; first | omega | exact Nat.le_refl _⟩, ⟨by (with_reducible repeat (first | apply Kd.R_alloc | apply Kd.R_drewN | apply Kd.R_drew)); exact Kd.R_mono HO832.out (fun _ hk => ⟨hk.1, ⟨hk.2.2.1, ⟨hk.2.2.2.1, hk.2.2.2.2.2.1⟩⟩⟩)⟩, ⟨by (with_reducible repeat (first | apply Kd.R_alloc | apply Kd.R_drewN | apply Kd.R_drew)); exact Kd.R_mono HO841.out (fun _ hk => ⟨hk.1, ⟨hk.2.2.1, ⟨hk.2.2.2.1, hk.2.2.2.2.2.1⟩⟩⟩)⟩, ⟨by (with_reducible repeat (first | apply Kd.R_alloc | apply Kd.R_drewN | apply Kd.R_drew)); exact Kd.R_mono HO853.out (fun _ hk => ⟨hk.1, ⟨hk.2.1, ⟨hk.2.2.2.1, hk.2.2.2.2.2.1⟩⟩⟩)⟩, ⟨by (with_reducible repeat (first | apply Kd.R_alloc | apply Kd.R_drewN | apply Kd.R_drew)); exact Kd.R_mono HO859.out (fun _ hk => ⟨hk.1, ⟨hk.2.1, ⟨hk.2.2.2.1, hk.2.2.2.2.2.1⟩⟩⟩)⟩, zk BK836, zk BK837, zk BK843, zk BK855, zk BK861, ⟨zy HB⟩⟩
                     replace c328 := Bool.eq_false_iff.mpr c328
                     subst c328; rw [if_neg (show ¬ (false = true) by decide)] at H; have H' := Aside0.mk H; clear H
                     as_aux_lemma =>
                      try go_wp2
                      have n0_ : Aside0 (Kd.R k39 39 (((w287.setCell ⟨gb884, 0, none⟩ (.int .i64 t881)).setCell ⟨gb884, 1, none⟩ (.int .i64 t882)).setCell ⟨gb884, 2, none⟩ (.int .i64 t883)) w.heap.size (fun k_ => some k_ ≠ (.slice Ao224 t839.length co224 : Value).ownBlock ∧ some k_ ≠ (.slice Ao233 t845.length co233 : Value).ownBlock ∧ some k_ ≠ (.slice Ao241 t851.length co241 : Value).ownBlock ∧ some k_ ≠ (.slice Ao250 t857.length co250 : Value).ownBlock ∧ some k_ ≠ (.slice Ao261 t863.length co261 : Value).ownBlock ∧ k_ ≠ gb837 ∧ k_ ≠ gb874 ∧ k_ ≠ gb884) (.slice Ao217 t830.length co217) t830) := ⟨by (with_reducible repeat (first | apply Kd.R_alloc | apply Kd.R_drewN | apply Kd.R_drew)); exact Kd.R_mono (Kd.R_far (p := ⟨gb884, 2, none⟩) (Kd.R_far (p := ⟨gb884, 1, none⟩) (Kd.R_far (p := ⟨gb884, 0, none⟩) (Kd.R_mono HO832.out (fun k_ hk => (⟨hk, hk.2⟩ : _ ∧ k_ ≠ gb884))) (fun _ hk => hk.2) (.int .i64 t881)) (fun _ hk => hk.2) (.int .i64 t882)) (fun _ hk => hk.2) (.int .i64 t883)) (fun _ hk => ⟨hk.1.1.1.1.1.1.1.2, ⟨hk.1.1.1.1.1.1.2, ⟨hk.1.1.1.1.1.2, ⟨hk.1.1.1.1.2, ⟨hk.1.1.1.2, ⟨hk.1.1.1.1.1.1.1.1.2, ⟨hk.1.1.2, hk.1.2⟩⟩⟩⟩⟩⟩⟩)⟩
                      have n1_ : Aside0 (Kd.R k39 39 (((w287.setCell ⟨gb884, 0, none⟩ (.int .i64 t881)).setCell ⟨gb884, 1, none⟩ (.int .i64 t882)).setCell ⟨gb884, 2, none⟩ (.int .i64 t883)) w.heap.size (fun k_ => some k_ ≠ (.slice Ao217 t830.length co217 : Value).ownBlock ∧ some k_ ≠ (.slice Ao233 t845.length co233 : Value).ownBlock ∧ some k_ ≠ (.slice Ao241 t851.length co241 : Value).ownBlock ∧ some k_ ≠ (.slice Ao250 t857.length co250 : Value).ownBlock ∧ some k_ ≠ (.slice Ao261 t863.length co261 : Value).ownBlock ∧ k_ ≠ gb837 ∧ k_ ≠ gb874 ∧ k_ ≠ gb884) (.slice Ao224 t839.length co224) t839) := ⟨by (with_reducible repeat (first | apply Kd.R_alloc | apply Kd.R_drewN | apply Kd.R_drew)); exact Kd.R_mono (Kd.R_far (p := ⟨gb884, 2, none⟩) (Kd.R_far (p := ⟨gb884, 1, none⟩) (Kd.R_far (p := ⟨gb884, 0, none⟩) (Kd.R_mono HO841.out (fun k_ hk => (⟨hk, hk.2⟩ : _ ∧ k_ ≠ gb884))) (fun _ hk => hk.2) (.int .i64 t881)) (fun _ hk => hk.2) (.int .i64 t882)) (fun _ hk => hk.2) (.int .i64 t883)) (fun _ hk => ⟨hk.1.1.1.1.1.1.1.1.2, ⟨hk.1.1.1.1.1.1.2, ⟨hk.1.1.1.1.1.2, ⟨hk.1.1.1.1.2, ⟨hk.1.1.1.2, ⟨hk.1.1.1.1.1.1.1.2, ⟨hk.1.1.2, hk.1.2⟩⟩⟩⟩⟩⟩⟩)⟩
                      have n2_ : Aside0 (Kd.R k39 39 (((w287.setCell ⟨gb884, 0, none⟩ (.int .i64 t881)).setCell ⟨gb884, 1, none⟩ (.int .i64 t882)).setCell ⟨gb884, 2, none⟩ (.int .i64 t883)) w.heap.size (fun k_ => some k_ ≠ (.slice Ao217 t830.length co217 : Value).ownBlock ∧ some k_ ≠ (.slice Ao224 t839.length co224 : Value).ownBlock ∧ some k_ ≠ (.slice Ao241 t851.length co241 : Value).ownBlock ∧ some k_ ≠ (.slice Ao250 t857.length co250 : Value).ownBlock ∧ some k_ ≠ (.slice Ao261 t863.length co261 : Value).ownBlock ∧ k_ ≠ gb837 ∧ k_ ≠ gb874 ∧ k_ ≠ gb884) (.slice Ao233 t845.length co233) t845) := ⟨by (with_reducible repeat (first | apply Kd.R_alloc | apply Kd.R_drewN | apply Kd.R_drew)); exact Kd.R_mono (Kd.R_far (p := ⟨gb884, 2, none⟩) (Kd.R_far (p := ⟨gb884, 1, none⟩) (Kd.R_far (p := ⟨gb884, 0, none⟩) (Kd.R_mono HO847.out (fun k_ hk => (⟨hk, hk.2⟩ : _ ∧ k_ ≠ gb884))) (fun _ hk => hk.2) (.int .i64 t881)) (fun _ hk => hk.2) (.int .i64 t882)) (fun _ hk => hk.2) (.int .i64 t883)) (fun _ hk => ⟨hk.1.1.1.1.1.1.1.1.2, ⟨hk.1.1.1.1.1.1.1.2, ⟨hk.1.1.1.1.1.2, ⟨hk.1.1.1.1.2, ⟨hk.1.1.1.2, ⟨hk.1.1.1.1.1.1.2, ⟨hk.1.1.2, hk.1.2⟩⟩⟩⟩⟩⟩⟩)⟩
                      have n3_ : Aside0 (Kd.R k39 39 (((w287.setCell ⟨gb884, 0, none⟩ (.int .i64 t881)).setCell ⟨gb884, 1, none⟩ (.int .i64 t882)).setCell ⟨gb884, 2, none⟩ (.int .i64 t883)) w.heap.size (fun k_ => some k_ ≠ (.slice Ao217 t830.length co217 : Value).ownBlock ∧ some k_ ≠ (.slice Ao224 t839.length co224 : Value).ownBlock ∧ some k_ ≠ (.slice Ao233 t845.length co233 : Value).ownBlock ∧ some k_ ≠ (.slice Ao250 t857.length co250 : Value).ownBlock ∧ some k_ ≠ (.slice Ao261 t863.length co261 : Value).ownBlock ∧ k_ ≠ gb837 ∧ k_ ≠ gb874 ∧ k_ ≠ gb884) (.slice Ao241 t851.length co241) t851) := ⟨by (with_reducible repeat (first | apply Kd.R_alloc | apply Kd.R_drewN | apply Kd.R_drew)); exact Kd.R_mono (Kd.R_far (p := ⟨gb884, 2, none⟩) (Kd.R_far (p := ⟨gb884, 1, none⟩) (Kd.R_far (p := ⟨gb884, 0, none⟩) (Kd.R_mono HO853.out (fun k_ hk => (⟨hk, hk.2⟩ : _ ∧ k_ ≠ gb884))) (fun _ hk => hk.2) (.int .i64 t881)) (fun _ hk => hk.2) (.int .i64 t882)) (fun _ hk => hk.2) (.int .i64 t883)) (fun _ hk => ⟨hk.1.1.1.1.1.1.1.1.2, ⟨hk.1.1.1.1.1.1.1.2, ⟨hk.1.1.1.1.1.1.2, ⟨hk.1.1.1.1.2, ⟨hk.1.1.1.2, ⟨hk.1.1.1.1.1.2, ⟨hk.1.1.2, hk.1.2⟩⟩⟩⟩⟩⟩⟩)⟩
                      have n4_ : Aside0 (Kd.R k39 39 (((w287.setCell ⟨gb884, 0, none⟩ (.int .i64 t881)).setCell ⟨gb884, 1, none⟩ (.int .i64 t882)).setCell ⟨gb884, 2, none⟩ (.int .i64 t883)) w.heap.size (fun k_ => some k_ ≠ (.slice Ao217 t830.length co217 : Value).ownBlock ∧ some k_ ≠ (.slice Ao224 t839.length co224 : Value).ownBlock ∧ some k_ ≠ (.slice Ao233 t845.length co233 : Value).ownBlock ∧ some k_ ≠ (.slice Ao241 t851.length co241 : Value).ownBlock ∧ some k_ ≠ (.slice Ao261 t863.length co261 : Value).ownBlock ∧ k_ ≠ gb837 ∧ k_ ≠ gb874 ∧ k_ ≠ gb884) (.slice Ao250 t857.length co250) t857) := ⟨by (with_reducible repeat (first | apply Kd.R_alloc | apply Kd.R_drewN | apply Kd.R_drew)); exact Kd.R_mono (Kd.R_far (p := ⟨gb884, 2, none⟩) (Kd.R_far (p := ⟨gb884, 1, none⟩) (Kd.R_far (p := ⟨gb884, 0, none⟩) (Kd.R_mono HO859.out (fun k_ hk => (⟨hk, hk.2⟩ : _ ∧ k_ ≠ gb884))) (fun _ hk => hk.2) (.int .i64 t881)) (fun _ hk => hk.2) (.int .i64 t882)) (fun _ hk => hk.2) (.int .i64 t883)) (fun _ hk => ⟨hk.1.1.1.1.1.1.1.1.2, ⟨hk.1.1.1.1.1.1.1.2, ⟨hk.1.1.1.1.1.1.2, ⟨hk.1.1.1.1.1.2, ⟨hk.1.1.1.2, ⟨hk.1.1.1.1.2, ⟨hk.1.1.2, hk.1.2⟩⟩⟩⟩⟩⟩⟩)⟩
                      have n5_ : Aside0 (Kd.R k39 39 (((w287.setCell ⟨gb884, 0, none⟩ (.int .i64 t881)).setCell ⟨gb884, 1, none⟩ (.int .i64 t882)).setCell ⟨gb884, 2, none⟩ (.int .i64 t883)) w.heap.size (fun k_ => some k_ ≠ (.slice Ao217 t830.length co217 : Value).ownBlock ∧ some k_ ≠ (.slice Ao224 t839.length co224 : Value).ownBlock ∧ some k_ ≠ (.slice Ao233 t845.length co233 : Value).ownBlock ∧ some k_ ≠ (.slice Ao241 t851.length co241 : Value).ownBlock ∧ some k_ ≠ (.slice Ao250 t857.length co250 : Value).ownBlock ∧ k_ ≠ gb837 ∧ k_ ≠ gb874 ∧ k_ ≠ gb884) (.slice Ao261 t863.length co261) t863) := ⟨by (with_reducible repeat (first | apply Kd.R_alloc | apply Kd.R_drewN | apply Kd.R_drew)); exact Kd.R_mono (Kd.R_far (p := ⟨gb884, 2, none⟩) (Kd.R_far (p := ⟨gb884, 1, none⟩) (Kd.R_far (p := ⟨gb884, 0, none⟩) (Kd.R_mono HO865.out (fun k_ hk => (⟨hk, hk.2⟩ : _ ∧ k_ ≠ gb884))) (fun _ hk => hk.2) (.int .i64 t881)) (fun _ hk => hk.2) (.int .i64 t882)) (fun _ hk => hk.2) (.int .i64 t883)) (fun _ hk => ⟨hk.1.1.1.1.1.1.1.1.2, ⟨hk.1.1.1.1.1.1.1.2, ⟨hk.1.1.1.1.1.1.2, ⟨hk.1.1.1.1.1.2, ⟨hk.1.1.1.1.2, ⟨hk.1.1.1.2, ⟨hk.1.1.2, hk.1.2⟩⟩⟩⟩⟩⟩⟩)⟩
                      have n6_ : Aside0 ((((w287.setCell ⟨gb884, 0, none⟩ (.int .i64 t881)).setCell ⟨gb884, 1, none⟩ (.int .i64 t882)).setCell ⟨gb884, 2, none⟩ (.int .i64 t883)).heap[gb836]? = some (.cells #[.int .i64 t829, .slice Ao217 t830.length co217] 30 (0, 0))) := ⟨zw BK836⟩
                      have n7_ : Aside0 ((((w287.setCell ⟨gb884, 0, none⟩ (.int .i64 t881)).setCell ⟨gb884, 1, none⟩ (.int .i64 t882)).setCell ⟨gb884, 2, none⟩ (.int .i64 t883)).heap[gb837]? = some (.cells #[.int .i64 t833, .int .i64 t834, .int .i64 t835] 39 (0, 0))) := ⟨zw BK837⟩
                      have n8_ : Aside0 ((((w287.setCell ⟨gb884, 0, none⟩ (.int .i64 t881)).setCell ⟨gb884, 1, none⟩ (.int .i64 t882)).setCell ⟨gb884, 2, none⟩ (.int .i64 t883)).heap[gb843]? = some (.cells #[.int .i64 t838, .slice Ao224 t839.length co224] 30 (0, 0))) := ⟨zw BK843⟩
                      have n9_ : Aside0 ((((w287.setCell ⟨gb884, 0, none⟩ (.int .i64 t881)).setCell ⟨gb884, 1, none⟩ (.int .i64 t882)).setCell ⟨gb884, 2, none⟩ (.int .i64 t883)).heap[gb849]? = some (.cells #[.int .i64 t844, .slice Ao233 t845.length co233] 30 (0, 0))) := ⟨zw BK849⟩
                      have n10_ : Aside0 ((((w287.setCell ⟨gb884, 0, none⟩ (.int .i64 t881)).setCell ⟨gb884, 1, none⟩ (.int .i64 t882)).setCell ⟨gb884, 2, none⟩ (.int .i64 t883)).heap[gb855]? = some (.cells #[.int .i64 t850, .slice Ao241 t851.length co241] 30 (0, 0))) := ⟨zw BK855⟩
                      have n11_ : Aside0 ((((w287.setCell ⟨gb884, 0, none⟩ (.int .i64 t881)).setCell ⟨gb884, 1, none⟩ (.int .i64 t882)).setCell ⟨gb884, 2, none⟩ (.int .i64 t883)).heap[gb861]? = some (.cells #[.int .i64 t856, .slice Ao250 t857.length co250] 30 (0, 0))) := ⟨zw BK861⟩
                      have n12_ : Aside0 ((((w287.setCell ⟨gb884, 0, none⟩ (.int .i64 t881)).setCell ⟨gb884, 1, none⟩ (.int .i64 t882)).setCell ⟨gb884, 2, none⟩ (.int .i64 t883)).heap[gb867]? = some (.cells #[.int .i64 t862, .slice Ao261 t863.length co261] 30 (0, 0))) := ⟨zw BK867⟩
                      have n13_ : Aside0 ((((w287.setCell ⟨gb884, 0, none⟩ (.int .i64 t881)).setCell ⟨gb884, 1, none⟩ (.int .i64 t882)).setCell ⟨gb884, 2, none⟩ (.int .i64 t883)).heap[gb874]? = some (.cells #[.int .i64 t868, .int .i64 t869, .int .i64 t870] 39 (0, 0))) := ⟨zw BK874⟩
                      have n14_ : Aside0 ((((w287.setCell ⟨gb884, 0, none⟩ (.int .i64 t881)).setCell ⟨gb884, 1, none⟩ (.int .i64 t882)).setCell ⟨gb884, 2, none⟩ (.int .i64 t883)).heap[gb875]? = some (.cells #[.int .i64 t871, .int .i64 t872, .int .i64 t873] 25 (0, 0))) := ⟨zw BK875⟩
                      have n15_ : Aside0 ((((w287.setCell ⟨gb884, 0, none⟩ (.int .i64 t881)).setCell ⟨gb884, 1, none⟩ (.int .i64 t882)).setCell ⟨gb884, 2, none⟩ (.int .i64 t883)).heap[gb884]? = some (.cells #[.int .i64 t881, .int .i64 t882, .int .i64 t883] 39 (0, 0))) := ⟨zw BK884⟩
                      have n16_ : Aside0 (Below w.heap.size w (((w287.setCell ⟨gb884, 0, none⟩ (.int .i64 t881)).setCell ⟨gb884, 1, none⟩ (.int .i64 t882)).setCell ⟨gb884, 2, none⟩ (.int .i64 t883))) := ⟨zy HB⟩
                      (try clear HO832)
                      (try clear HO841)
                      (try clear HO847)
                      (try clear HO853)
                      (try clear HO859)
                      (try clear HO865)
                      (try clear BK836)
                      (try clear BK837)
                      (try clear BK843)
                      (try clear BK849)
                      (try clear BK855)
                      (try clear BK861)
                      (try clear BK867)
                      (try clear BK874)
                      (try clear BK875)
                      (try clear BK884)
                      (try clear HB)
                      generalize (((w287.setCell ⟨gb884, 0, none⟩ (.int .i64 t881)).setCell ⟨gb884, 1, none⟩ (.int .i64 t882)).setCell ⟨gb884, 2, none⟩ (.int .i64 t883)) = w337 at n0_ n1_ n2_ n3_ n4_ n5_ n6_ n7_ n8_ n9_ n10_ n11_ n12_ n13_ n14_ n15_ n16_ ⊢
                      have HO832 := n0_; have HO841 := n1_; have HO847 := n2_; have HO853 := n3_; have HO859 := n4_; have HO865 := n5_; have BK836 := n6_; have BK837 := n7_; have BK843 := n8_; have BK849 := n9_; have BK855 := n10_; have BK861 := n11_; have BK867 := n12_; have BK874 := n13_; have BK875 := n14_; have BK884 := n15_; have HB := n16_; clear n0_ n1_ n2_ n3_ n4_ n5_ n6_ n7_ n8_ n9_ n10_ n11_ n12_ n13_ n14_ n15_ n16_; replace HO832 := Aside0.mk (Kd.R_drew HO832.out); replace HO841 := Aside0.mk (Kd.R_drew HO841.out); replace HO847 := Aside0.mk (Kd.R_drew HO847.out); replace HO853 := Aside0.mk (Kd.R_drew HO853.out); replace HO859 := Aside0.mk (Kd.R_drew HO859.out); replace HO865 := Aside0.mk (Kd.R_drew HO865.out); replace BK836 := Aside0.mk (blk_drew BK836.out); replace BK837 := Aside0.mk (blk_drew BK837.out); replace BK843 := Aside0.mk (blk_drew BK843.out); replace BK849 := Aside0.mk (blk_drew BK849.out); replace BK855 := Aside0.mk (blk_drew BK855.out); replace BK861 := Aside0.mk (blk_drew BK861.out); replace BK867 := Aside0.mk (blk_drew BK867.out); replace BK874 := Aside0.mk (blk_drew BK874.out); replace BK875 := Aside0.mk (blk_drew BK875.out); replace BK884 := Aside0.mk (blk_drew BK884.out); replace HB := Aside0.mk (below_drew1 HB.out)
                      refine start_ (n := 49) (S := fun w' => w'.cell? ⟨gb843, 0, none⟩ = some (.int .i64 t838) ∧ w'.cell? ⟨gb843, 1, none⟩ = some (.slice Ao224 t839.length co224) ∧ w'.cell? ⟨gb849, 0, none⟩ = some (.int .i64 t844) ∧ w'.cell? ⟨gb849, 1, none⟩ = some (.slice Ao233 t845.length co233) ∧ w'.cell? ⟨gb861, 0, none⟩ = some (.int .i64 t856) ∧ w'.cell? ⟨gb861, 1, none⟩ = some (.slice Ao250 t857.length co250) ∧ w'.cell? ⟨gb867, 0, none⟩ = some (.int .i64 t862) ∧ w'.cell? ⟨gb867, 1, none⟩ = some (.slice Ao261 t863.length co261) ∧ w'.cell? ⟨gb884, 0, none⟩ = some (.int .i64 t881) ∧ w'.cell? ⟨gb884, 1, none⟩ = some (.int .i64 t882) ∧ w'.cell? ⟨gb884, 2, none⟩ = some (.int .i64 t883)) (ds := []) #[false, false, false, false, false, false, false, false, false, false, false, false, false, false, false, false, false, false, false, false, false, false, false, false, false, false, false, false, false, false, false, false, false, false, false, false, false, false, false, false, false, false, false, false, false, false, false, false, false] (by kernel_rfl) rfl rfl ⟨(blk_cell BK843.out 0).trans rfl, (blk_cell BK843.out 1).trans rfl, (blk_cell BK849.out 0).trans rfl, (blk_cell BK849.out 1).trans rfl, (blk_cell BK861.out 0).trans rfl, (blk_cell BK861.out 1).trans rfl, (blk_cell BK867.out 0).trans rfl, (blk_cell BK867.out 1).trans rfl, (blk_cell BK884.out 0).trans rfl, (blk_cell BK884.out 1).trans rfl, (blk_cell BK884.out 2).trans rfl⟩ (fun hHeld => ?_); refine with_tabW laws_FnLaddersHidden.tab47 laws_FnLaddersHidden.bits47 (fun HT_ HW_ => ?_)
                      generalize w337.drew = w338 at HO832 HO841 HO847 HO853 HO859 HO865 BK836 BK837 BK843 BK849 BK855 BK861 BK867 BK874 BK875 BK884 HB hHeld ⊢
                      refine zA 0 355 HT_ ?_
                      refine zA 1 356 HT_ ?_
                      refine zA 2 357 HT_ ?_
                      refine zA 3 358 HT_ ?_
                      refine zT 4 359 HT_ HW_ hHeld ?_
                      refine zT 5 360 HT_ HW_ hHeld ?_
                      refine zO 6 (some 361) HT_ (fun K hK => ?_)
                      refine goes_ Try.func8 (by kernel_rfl) rfl #[.agg #[.int .i64 t838, .slice Ao224 t839.length co224], .agg #[.int .i64 t844, .slice Ao233 t845.length co233]] (by rfl) rfl rfl zO4_3 ?_
                      with_reducible refine (laws_jPuzzle.calls kj176 t838 _ _ t839 t844 _ _ t845 true _ ?side1 ?side2 ?side3 ?side4 A301.out).mono ?_
                      (case side1 => repeat (first | exact (Kd.R_reads' HO841.out).2.2 | (with_reducible refine Kd.C_alloc ?_ _) | (with_reducible refine Kd.C_drewN ?_ _) | (with_reducible refine Kd.C_drew ?_)))
                      (case side2 => exact (Kd.R_reads' HO841.out).2.1)
                      (case side3 => repeat (first | exact (Kd.R_reads' HO847.out).2.2 | (with_reducible refine Kd.C_alloc ?_ _) | (with_reducible refine Kd.C_drewN ?_ _) | (with_reducible refine Kd.C_drew ?_)))
                      (case side4 => exact (Kd.R_reads' HO847.out).2.1)
                      rintro e w339 ⟨rfl, hb⟩
                      refine ⟨_, rfl, ?_⟩
                      replace HO832 := zo HO832 hb; replace HO841 := zo HO841 hb; replace HO847 := zo HO847 hb; replace HO853 := zo HO853 hb; replace HO859 := zo HO859 hb; replace HO865 := zo HO865 hb; replace BK836 := zb BK836 hb; replace BK837 := zb BK837 hb; replace BK843 := zb BK843 hb; replace BK849 := zb BK849 hb; replace BK855 := zb BK855 hb; replace BK861 := zb BK861 hb; replace BK867 := zb BK867 hb; replace BK874 := zb BK874 hb; replace BK875 := zb BK875 hb; replace BK884 := zb BK884 hb; replace HB := zh HB hb
                      (try clear hb)
                      (try clear hb2)
                      (try clear hk)
                      (try clear hi)
                      refine hK.out _ _ ⟨(blk_cell BK843.out 0).trans rfl, (blk_cell BK843.out 1).trans rfl, (blk_cell BK849.out 0).trans rfl, (blk_cell BK849.out 1).trans rfl, (blk_cell BK861.out 0).trans rfl, (blk_cell BK861.out 1).trans rfl, (blk_cell BK867.out 0).trans rfl, (blk_cell BK867.out 1).trans rfl, (blk_cell BK884.out 0).trans rfl, (blk_cell BK884.out 1).trans rfl, (blk_cell BK884.out 2).trans rfl⟩ (fun hHeld => ?_)
                      clear hK K
                      refine zN 361 ?_
                      refine zA 7 362 HT_ ?_
                      refine zA 8 363 HT_ ?_
                      refine zA 9 364 HT_ ?_
                      refine zA 10 365 HT_ ?_
                      refine zA 11 366 HT_ ?_
                      refine zA 12 367 HT_ ?_
                      refine zA 13 368 HT_ ?_
                      refine zA 14 369 HT_ ?_
                      refine zT 15 370 HT_ HW_ hHeld ?_
                      refine zT 16 371 HT_ HW_ hHeld ?_
                      refine zO 17 (some 372) HT_ (fun K hK => ?_)
                      refine goes_ Try.func8 (by kernel_rfl) rfl #[.agg #[.int .i64 t856, .slice Ao250 t857.length co250], .agg #[.int .i64 t862, .slice Ao261 t863.length co261]] (by rfl) rfl rfl zO4_3 ?_
                      with_reducible refine (laws_jPuzzle.calls kj176 t856 _ _ t857 t862 _ _ t863 true _ ?side1 ?side2 ?side3 ?side4 A307.out).mono ?_
                      (case side1 => repeat (first | exact (Kd.R_reads' HO859.out).2.2 | (with_reducible refine Kd.C_alloc ?_ _) | (with_reducible refine Kd.C_drewN ?_ _) | (with_reducible refine Kd.C_drew ?_)))
                      (case side2 => exact (Kd.R_reads' HO859.out).2.1)
                      (case side3 => repeat (first | exact (Kd.R_reads' HO865.out).2.2 | (with_reducible refine Kd.C_alloc ?_ _) | (with_reducible refine Kd.C_drewN ?_ _) | (with_reducible refine Kd.C_drew ?_)))
                      (case side4 => exact (Kd.R_reads' HO865.out).2.1)
                      rintro e w340 ⟨rfl, hb⟩
                      refine ⟨_, rfl, ?_⟩
                      replace HO832 := zo HO832 hb; replace HO841 := zo HO841 hb; replace HO847 := zo HO847 hb; replace HO853 := zo HO853 hb; replace HO859 := zo HO859 hb; replace HO865 := zo HO865 hb; replace BK836 := zb BK836 hb; replace BK837 := zb BK837 hb; replace BK843 := zb BK843 hb; replace BK849 := zb BK849 hb; replace BK855 := zb BK855 hb; replace BK861 := zb BK861 hb; replace BK867 := zb BK867 hb; replace BK874 := zb BK874 hb; replace BK875 := zb BK875 hb; replace BK884 := zb BK884 hb; replace HB := zh HB hb
                      (try clear hb)
                      (try clear hb2)
                      (try clear hk)
                      (try clear hi)
                      refine hK.out _ _ ⟨(blk_cell BK843.out 0).trans rfl, (blk_cell BK843.out 1).trans rfl, (blk_cell BK849.out 0).trans rfl, (blk_cell BK849.out 1).trans rfl, (blk_cell BK861.out 0).trans rfl, (blk_cell BK861.out 1).trans rfl, (blk_cell BK867.out 0).trans rfl, (blk_cell BK867.out 1).trans rfl, (blk_cell BK884.out 0).trans rfl, (blk_cell BK884.out 1).trans rfl, (blk_cell BK884.out 2).trans rfl⟩ (fun hHeld => ?_)
                      clear hK K
                      refine zN 372 ?_
                      refine zA 18 373 HT_ ?_
                      refine zA 19 374 HT_ ?_
                      refine zA 20 375 HT_ ?_
                      refine zA 21 376 HT_ ?_
                      refine zA 22 377 HT_ ?_
                      refine zA 23 378 HT_ ?_
                      refine zA 24 379 HT_ ?_
                      refine zA 25 380 HT_ ?_
                      refine zA 26 381 HT_ ?_
                      refine zA 27 382 HT_ ?_
                      refine zA 28 383 HT_ ?_
                      refine zA 29 384 HT_ ?_
                      refine zA 30 385 HT_ ?_
                      refine zA 31 386 HT_ ?_
                      refine zA 34 389 HT_ ?_
                      refine zT 32 387 HT_ HW_ hHeld ?_
                      refine zT 35 390 HT_ HW_ hHeld ?_
                      refine zO 33 (some 388) HT_ (fun K hK => ?_)
                      refine goes_ Try.func30 (by kernel_rfl) rfl #[.int .i64 t880, .agg #[.int .i64 t881, .int .i64 t882, .int .i64 t883]] (by rfl) rfl rfl zO4_3 ?_
                      with_reducible refine (impl_IsClue.calls kj176 t880 t881 t882 t883 t887 _ A319.out).mono ?_
                      rintro e w341 ⟨rfl, hb⟩
                      refine ⟨_, rfl, ?_⟩
                      replace HO832 := zo HO832 hb; replace HO841 := zo HO841 hb; replace HO847 := zo HO847 hb; replace HO853 := zo HO853 hb; replace HO859 := zo HO859 hb; replace HO865 := zo HO865 hb; replace BK836 := zb BK836 hb; replace BK837 := zb BK837 hb; replace BK843 := zb BK843 hb; replace BK849 := zb BK849 hb; replace BK855 := zb BK855 hb; replace BK861 := zb BK861 hb; replace BK867 := zb BK867 hb; replace BK874 := zb BK874 hb; replace BK875 := zb BK875 hb; replace BK884 := zb BK884 hb; replace HB := zh HB hb
                      (try clear hb)
                      (try clear hb2)
                      (try clear hk)
                      (try clear hi)
                      refine hK.out _ _ ⟨(blk_cell BK843.out 0).trans rfl, (blk_cell BK843.out 1).trans rfl, (blk_cell BK849.out 0).trans rfl, (blk_cell BK849.out 1).trans rfl, (blk_cell BK861.out 0).trans rfl, (blk_cell BK861.out 1).trans rfl, (blk_cell BK867.out 0).trans rfl, (blk_cell BK867.out 1).trans rfl, (blk_cell BK884.out 0).trans rfl, (blk_cell BK884.out 1).trans rfl, (blk_cell BK884.out 2).trans rfl⟩ (fun hHeld => ?_)
                      clear hK K
                      refine zN 388 ?_
                      refine zO 36 (some 391) HT_ (fun K hK => ?_)
                      refine goes_ Try.func31 (by kernel_rfl) rfl #[.int .i64 t880, .agg #[.int .i64 t881, .int .i64 t882, .int .i64 t883]] (by rfl) rfl rfl zO4_3 ?_
                      with_reducible refine (spec_IsClue.calls kj176 t880 t881 t882 t883 t888 _ A320.out).mono ?_
                      rintro e w342 ⟨rfl, hb⟩
                      refine ⟨_, rfl, ?_⟩
                      replace HO832 := zo HO832 hb; replace HO841 := zo HO841 hb; replace HO847 := zo HO847 hb; replace HO853 := zo HO853 hb; replace HO859 := zo HO859 hb; replace HO865 := zo HO865 hb; replace BK836 := zb BK836 hb; replace BK837 := zb BK837 hb; replace BK843 := zb BK843 hb; replace BK849 := zb BK849 hb; replace BK855 := zb BK855 hb; replace BK861 := zb BK861 hb; replace BK867 := zb BK867 hb; replace BK874 := zb BK874 hb; replace BK875 := zb BK875 hb; replace BK884 := zb BK884 hb; replace HB := zh HB hb
                      (try clear hb)
                      (try clear hb2)
                      (try clear hk)
                      (try clear hi)
                      refine hK.out _ _ ⟨(blk_cell BK843.out 0).trans rfl, (blk_cell BK843.out 1).trans rfl, (blk_cell BK849.out 0).trans rfl, (blk_cell BK849.out 1).trans rfl, (blk_cell BK861.out 0).trans rfl, (blk_cell BK861.out 1).trans rfl, (blk_cell BK867.out 0).trans rfl, (blk_cell BK867.out 1).trans rfl, (blk_cell BK884.out 0).trans rfl, (blk_cell BK884.out 1).trans rfl, (blk_cell BK884.out 2).trans rfl⟩ (fun hHeld => ?_)
                      clear hK K
                      refine zN 391 ?_
                      refine zA 37 392 HT_ ?_
                      refine zA 38 393 HT_ ?_
                      refine zA 39 394 HT_ ?_
                      refine zA 40 395 HT_ ?_
                      refine zA 41 396 HT_ ?_
                      refine zAu 42 397 HT_ ?_
                      refine zAu 43 398 HT_ ?_
                      refine zAu 44 399 HT_ ?_
                      refine zAu 45 400 HT_ ?_
                      refine zAu 46 401 HT_ ?_
                      refine zA 47 402 HT_ ?_
                      refine zA 48 403 HT_ ?_
                      refine done_ (done_of HT_.out (by kernel_rfl)) ?_
                      try go_wp2
                      go_meet
                      case rel => exact ⟨_, (false), zu, H', ⟨by have := HJ7.out; have := HJ32.out; have := HJ134.out; have := HJ176.out; first | omega | exact Nat.le_refl _⟩, ⟨by (with_reducible repeat (first | apply Kd.R_alloc | apply Kd.R_drewN | apply Kd.R_drew)); exact Kd.R_mono HO832.out (fun _ hk => ⟨hk.1, ⟨hk.2.2.1, ⟨hk.2.2.2.1, hk.2.2.2.2.2.1⟩⟩⟩)⟩, ⟨by (with_reducible repeat (first | apply Kd.R_alloc | apply Kd.R_drewN | apply Kd.R_drew)); exact Kd.R_mono HO841.out (fun _ hk => ⟨hk.1, ⟨hk.2.2.1, ⟨hk.2.2.2.1, hk.2.2.2.2.2.1⟩⟩⟩)⟩, ⟨by (with_reducible repeat (first | apply Kd.R_alloc | apply Kd.R_drewN | apply Kd.R_drew)); exact Kd.R_mono HO853.out (fun _ hk => ⟨hk.1, ⟨hk.2.1, ⟨hk.2.2.2.1, hk.2.2.2.2.2.1⟩⟩⟩)⟩, ⟨by (with_reducible repeat (first | apply Kd.R_alloc | apply Kd.R_drewN | apply Kd.R_drew)); exact Kd.R_mono HO859.out (fun _ hk => ⟨hk.1, ⟨hk.2.1, ⟨hk.2.2.2.1, hk.2.2.2.2.2.1⟩⟩⟩)⟩, zk BK836, zk BK837, zk BK843, zk BK855, zk BK861, ⟨zy HB⟩⟩
                   replace c308 := Bool.eq_false_iff.mpr c308
                   subst c308; rw [if_neg (show ¬ (false = true) by decide)] at H
                   exact absurd (HR_.out.symm.trans (laws_FnLaddersHidden.j6_true _ _ _ _ _ _ _ _ _ _ _ _ _ _ _ _ H)) (by decide)
                 replace c302 := Bool.eq_false_iff.mpr c302
                 subst c302; rw [if_neg (show ¬ (false = true) by decide)] at H
                 exact absurd (HR_.out.symm.trans (laws_FnLaddersHidden.j6_true _ _ _ _ _ _ _ _ _ _ _ _ _ _ _ _ H)) (by decide)
               (try clear hz760); (try clear hz766); (try clear hz772); (try clear hz793); (try clear hz800); (try clear hz806); (try clear hz812); (try clear hz836); (try clear hz837); (try clear hz843); (try clear hz849); (try clear hz855); (try clear hz861); (try clear hz867); (try clear hz874); (try clear hz875); (try clear hz884)
               clear HC211
               obtain ⟨kq, x403_210, rfl, HA, HJ210, HO_837001, HO_844001, HO_856001, HO_862001, BK836, BK837, BK843, BK855, BK861, HB⟩ := hcut
               cases kq with
               | zero => exact absurd HA.out (by simp [laws_FnLaddersHidden.j6])
               | succ kj210 =>
                 have H := HA.out; clear HA; simp only [laws_FnLaddersHidden.j6] at H
                 by_cases c350 : x403_210 = true
                 · subst c350
                   rw [if_pos rfl] at H
                   obtain rfl := Option.some.inj H
                   exact absurd HR_.out (by decide)
                 replace c350 := Bool.eq_false_iff.mpr c350
                 subst c350; rw [if_neg (show ¬ (false = true) by decide)] at H; have HC351 := Aside0.mk H; clear H
                 as_aux_lemma =>
                  go_upto_if 404 with (fail)
                  go_cut [] from 404 to 404 (fun wc => ∃ (kq : Nat), Aside0 (laws_FnLaddersHidden.j7 kq t854 t860 t850 t851 t856 t857 = some r) ∧ Aside0 (kq ≤ kj210) ∧ Aside0 (Kd.R k39 39 wc w.heap.size (fun k_ => some k_ ≠ ((.slice Ao250 t857.length co250) : Value).ownBlock) (.slice Ao241 t851.length co241) t851) ∧ Aside0 (Kd.R k39 39 wc w.heap.size (fun k_ => some k_ ≠ ((.slice Ao241 t851.length co241) : Value).ownBlock) (.slice Ao250 t857.length co250) t857) ∧ Aside0 (wc.heap[gb855]? = some (.cells #[.int .i64 t850, (.slice Ao241 t851.length co241)] 30 (0, 0))) ∧ Aside0 (wc.heap[gb861]? = some (.cells #[.int .i64 t856, (.slice Ao250 t857.length co250)] 30 (0, 0))) ∧ Aside0 (Below w.heap.size w wc))
                  case first =>
                    have H := HC351.out; clear HC351
                    by_cases c352 : t842 = true
                    · subst c352
                      rw [if_pos rfl] at H; replace H := Option.bind_eq_some_iff.mp H; obtain ⟨⟨t890, t891, t894⟩, A3530, H⟩ := H; (try dsimp only at H); have A353 := Aside0.mk A3530; clear A3530
                      by_cases c354 : t894 = true
                      · subst c354
                        rw [if_pos rfl] at H; replace H := Option.bind_eq_some_iff.mp H; obtain ⟨t896, A3550, H⟩ := H; (try dsimp only at H); have A355 := Aside0.mk A3550; clear A3550
                        by_cases c356 : t896 = true
                        · subst c356
                          rw [if_pos rfl] at H
                          by_cases c357 : 0 ≤ (t830.length : Int)
                          · rw [if_pos c357] at H
                            have c357b0 : decide (0 ≤ (t830.length : Int)) = true := decide_eq_true c357
                            have c357b1 : decide (0 ≤ t830.length) = true := decide_eq_true (by omega)
                            clear c357
                            (first | rw [c357b0] | (simp only [i64_w, i32_w]; rw [c357b0]) | skip)
                            by_cases c358 : (t830.length : Int) < (t839.length : Int)
                            · rw [if_pos c358] at H
                              have c358b0 : decide ((t830.length : Int) < (t839.length : Int)) = true := decide_eq_true c358
                              have c358b1 : decide (t830.length < t839.length) = true := decide_eq_true (Int.ofNat_lt.mp c358)
                              clear c358
                              by_cases c359 : (!(((rd_T39 t839 (t830.length : Int)).f0) == t833) || (!(((rd_T39 t839 (t830.length : Int)).f1) == t834) || (!(((rd_T39 t839 (t830.length : Int)).f2) == t835)))) = true
                              · rw [if_pos c359] at H
                                have c359b0 : (!(((rd_T39 t839 (t830.length : Int)).f0) == t833) || (!(((rd_T39 t839 (t830.length : Int)).f1) == t834) || (!(((rd_T39 t839 (t830.length : Int)).f2) == t835)))) = true := c359
                                clear c359
                                obtain rfl := Option.some.inj H
                                exact absurd HR_.out (by decide)
                              rw [if_neg c359] at H
                              have c359b0 : (!(((rd_T39 t839 (t830.length : Int)).f0) == t833) || (!(((rd_T39 t839 (t830.length : Int)).f1) == t834) || (!(((rd_T39 t839 (t830.length : Int)).f2) == t835)))) = false := by simpa using c359
                              clear c359; have H' := Aside0.mk H; clear H
                              replace hNB843_836 := NB843_836.out
                              replace hNB836_843 := NB836_843.out
                              replace hNB843_837 := NB843_837.out
                              replace hNB837_843 := NB837_843.out
                              replace hNB843_855 := NB843_855.out
                              replace hNB855_843 := NB855_843.out
                              replace hNB843_861 := NB843_861.out
                              replace hNB861_843 := NB861_843.out
                              replace hz843 := zc2 BK843
                              replace hNB836_837 := NB836_837.out
                              replace hNB837_836 := NB837_836.out
                              replace hNB836_855 := NB836_855.out
                              replace hNB855_836 := NB855_836.out
                              replace hNB836_861 := NB836_861.out
                              replace hNB861_836 := NB861_836.out
                              replace hz836 := zc2 BK836
                              as_aux_lemma =>
                               try go_wp2_with (first | ((with_reducible refine gate_callee (f := 25) rfl ?_); refine zG (some 410) Try.func25 #[.agg #[.int .i64 t838, .slice Ao224 t839.length co224], .int .i64 (t830.length : Int)] ?_; (with_reducible refine (impl_DropClue.calls kj210 t838 _ _ t839 (t830.length : Int) t890 t891 true _ ?side1 ?side2 A353.out).mono ?_); (case side1 => repeat (first | exact (Kd.R_reads' HO_844001.out).2.2 | (with_reducible refine Kd.C_alloc ?_ _) | (with_reducible refine Kd.C_drewN ?_ _) | (with_reducible refine Kd.C_drew ?_))); (case side2 => exact (Kd.R_reads' HO_844001.out).2.1); rintro e w369 ⟨v892, rfl, ho0, hb⟩; refine ⟨_, rfl, ?_⟩; have n0_ := Aside0.mk (Kd.R_elder' (zs HO_837001) (Kd.R_base ho0) hb); have n1_ := Aside0.mk (Kd.R_elder' (zs HO_844001) (Kd.R_base ho0) hb); have n2_ := Aside0.mk (Kd.R_elder' (zs HO_856001) (Kd.R_base ho0) hb); have n3_ := Aside0.mk (Kd.R_elder' (zs HO_862001) (Kd.R_base ho0) hb); have HO893 := Aside0.mk (Kd.R_lower (Kd.R_newB (Kd.R_new' (Kd.R_new' (Kd.R_new' (Kd.R_new' ho0 (Kd.R_lt (zs HO_837001))) (Kd.R_lt (zs HO_844001))) (Kd.R_lt (zs HO_856001))) (Kd.R_lt (zs HO_862001))) (zq BK837)) (below_size (zy HB))); replace BK836 := zb BK836 hb; replace BK837 := zb BK837 hb; replace BK843 := zb BK843 hb; replace BK855 := zb BK855 hb; replace BK861 := zb BK861 hb; replace HB := zh HB hb; clear HO_837001; have HO_837001 := n0_; clear n0_; clear HO_844001; have HO_844001 := n1_; clear n1_; clear HO_856001; have HO_856001 := n2_; clear n2_; clear HO_862001; have HO_862001 := n3_; clear n3_; clear hb ho0) | ((with_reducible refine gate_dst (N := 66) rfl ?_); (try (refine gate_guard (by rfl) ?_; dsimp only)); refine zE 66 #[.int .i64 0, .slice none 0 0] 30 ?_; intro gb895 hg w370 hbox hb; have BK895 := Aside0.mk (hbox); have GW895 := zg HB hg; have GE895 := GW895; have NB836_895 := zl BK836 hg; have NB895_836 := zr BK836 hg; have NB837_895 := zl BK837 hg; have NB895_837 := zr BK837 hg; have NB843_895 := zl BK843 hg; have NB895_843 := zr BK843 hg; have NB855_895 := zl BK855 hg; have NB895_855 := zr BK855 hg; have NB861_895 := zl BK861 hg; have NB895_861 := zr BK861 hg; replace HO_837001 := zo HO_837001 hb; replace HO_844001 := zo HO_844001 hb; replace HO_856001 := zo HO_856001 hb; replace HO_862001 := zo HO_862001 hb; replace HO893 := zo HO893 hb; replace BK836 := zb BK836 hb; replace BK837 := zb BK837 hb; replace BK843 := zb BK843 hb; replace BK855 := zb BK855 hb; replace BK861 := zb BK861 hb; replace HB := zh HB hb; clear hb hbox hg; replace hNB895_836 := NB895_836.out; replace hNB836_895 := NB836_895.out; replace hNB895_837 := NB895_837.out; replace hNB837_895 := NB837_895.out; replace hNB895_843 := NB895_843.out; replace hNB843_895 := NB843_895.out; replace hNB895_855 := NB895_855.out; replace hNB855_895 := NB855_895.out; replace hNB895_861 := NB895_861.out; replace hNB861_895 := NB861_895.out; replace hz895 := zc2 BK895; obtain ⟨Ao377, co377, eo377⟩ := Kd.R_slice HO893.out; subst eo377))
                               have n0_ : Aside0 (Kd.R k39 39 ((w370.setCell ⟨gb895, 0, none⟩ (.int .i64 t890)).setCell ⟨gb895, 1, none⟩ (.slice Ao377 t891.length co377)) w.heap.size (fun k_ => some k_ ≠ (.slice Ao224 t839.length co224 : Value).ownBlock ∧ some k_ ≠ (.slice Ao241 t851.length co241 : Value).ownBlock ∧ some k_ ≠ (.slice Ao250 t857.length co250 : Value).ownBlock ∧ some k_ ≠ (.slice Ao377 t891.length co377 : Value).ownBlock ∧ k_ ≠ gb837) (.slice Ao217 t830.length co217) t830) := ⟨by (with_reducible repeat (first | apply Kd.R_alloc | apply Kd.R_drewN | apply Kd.R_drew)); exact Kd.R_mono (Kd.R_far (p := ⟨gb895, 1, none⟩) (Kd.R_far (p := ⟨gb895, 0, none⟩) (Kd.R_types HO_837001.out BK895.out (by decide)) (fun _ hk => hk.2) (.int .i64 t890)) (fun _ hk => hk.2) (.slice Ao377 t891.length co377)) (fun _ hk => ⟨hk.1.1.1, ⟨hk.1.1.2.1, ⟨hk.1.1.2.2.1, ⟨hk.1.2, hk.1.1.2.2.2⟩⟩⟩⟩)⟩
                               have n1_ : Aside0 (Kd.R k39 39 ((w370.setCell ⟨gb895, 0, none⟩ (.int .i64 t890)).setCell ⟨gb895, 1, none⟩ (.slice Ao377 t891.length co377)) w.heap.size (fun k_ => some k_ ≠ (.slice Ao217 t830.length co217 : Value).ownBlock ∧ some k_ ≠ (.slice Ao241 t851.length co241 : Value).ownBlock ∧ some k_ ≠ (.slice Ao250 t857.length co250 : Value).ownBlock ∧ some k_ ≠ (.slice Ao377 t891.length co377 : Value).ownBlock ∧ k_ ≠ gb837) (.slice Ao224 t839.length co224) t839) := ⟨by (with_reducible repeat (first | apply Kd.R_alloc | apply Kd.R_drewN | apply Kd.R_drew)); exact Kd.R_mono (Kd.R_far (p := ⟨gb895, 1, none⟩) (Kd.R_far (p := ⟨gb895, 0, none⟩) (Kd.R_types HO_844001.out BK895.out (by decide)) (fun _ hk => hk.2) (.int .i64 t890)) (fun _ hk => hk.2) (.slice Ao377 t891.length co377)) (fun _ hk => ⟨hk.1.1.1, ⟨hk.1.1.2.1, ⟨hk.1.1.2.2.1, ⟨hk.1.2, hk.1.1.2.2.2⟩⟩⟩⟩)⟩
                               have n2_ : Aside0 (Kd.R k39 39 ((w370.setCell ⟨gb895, 0, none⟩ (.int .i64 t890)).setCell ⟨gb895, 1, none⟩ (.slice Ao377 t891.length co377)) w.heap.size (fun k_ => some k_ ≠ (.slice Ao217 t830.length co217 : Value).ownBlock ∧ some k_ ≠ (.slice Ao224 t839.length co224 : Value).ownBlock ∧ some k_ ≠ (.slice Ao250 t857.length co250 : Value).ownBlock ∧ some k_ ≠ (.slice Ao377 t891.length co377 : Value).ownBlock ∧ k_ ≠ gb837) (.slice Ao241 t851.length co241) t851) := ⟨by (with_reducible repeat (first | apply Kd.R_alloc | apply Kd.R_drewN | apply Kd.R_drew)); exact Kd.R_mono (Kd.R_far (p := ⟨gb895, 1, none⟩) (Kd.R_far (p := ⟨gb895, 0, none⟩) (Kd.R_types HO_856001.out BK895.out (by decide)) (fun _ hk => hk.2) (.int .i64 t890)) (fun _ hk => hk.2) (.slice Ao377 t891.length co377)) (fun _ hk => ⟨hk.1.1.1, ⟨hk.1.1.2.1, ⟨hk.1.1.2.2.1, ⟨hk.1.2, hk.1.1.2.2.2⟩⟩⟩⟩)⟩
                               have n3_ : Aside0 (Kd.R k39 39 ((w370.setCell ⟨gb895, 0, none⟩ (.int .i64 t890)).setCell ⟨gb895, 1, none⟩ (.slice Ao377 t891.length co377)) w.heap.size (fun k_ => some k_ ≠ (.slice Ao217 t830.length co217 : Value).ownBlock ∧ some k_ ≠ (.slice Ao224 t839.length co224 : Value).ownBlock ∧ some k_ ≠ (.slice Ao241 t851.length co241 : Value).ownBlock ∧ some k_ ≠ (.slice Ao377 t891.length co377 : Value).ownBlock ∧ k_ ≠ gb837) (.slice Ao250 t857.length co250) t857) := ⟨by (with_reducible repeat (first | apply Kd.R_alloc | apply Kd.R_drewN | apply Kd.R_drew)); exact Kd.R_mono (Kd.R_far (p := ⟨gb895, 1, none⟩) (Kd.R_far (p := ⟨gb895, 0, none⟩) (Kd.R_types HO_862001.out BK895.out (by decide)) (fun _ hk => hk.2) (.int .i64 t890)) (fun _ hk => hk.2) (.slice Ao377 t891.length co377)) (fun _ hk => ⟨hk.1.1.1, ⟨hk.1.1.2.1, ⟨hk.1.1.2.2.1, ⟨hk.1.2, hk.1.1.2.2.2⟩⟩⟩⟩)⟩
                               have n4_ : Aside0 (Kd.R k39 39 ((w370.setCell ⟨gb895, 0, none⟩ (.int .i64 t890)).setCell ⟨gb895, 1, none⟩ (.slice Ao377 t891.length co377)) w.heap.size (fun k_ => some k_ ≠ (.slice Ao217 t830.length co217 : Value).ownBlock ∧ some k_ ≠ (.slice Ao224 t839.length co224 : Value).ownBlock ∧ some k_ ≠ (.slice Ao241 t851.length co241 : Value).ownBlock ∧ some k_ ≠ (.slice Ao250 t857.length co250 : Value).ownBlock ∧ k_ ≠ gb837) (.slice Ao377 t891.length co377) t891) := ⟨by (with_reducible repeat (first | apply Kd.R_alloc | apply Kd.R_drewN | apply Kd.R_drew)); exact Kd.R_mono (Kd.R_far (p := ⟨gb895, 1, none⟩) (Kd.R_far (p := ⟨gb895, 0, none⟩) (Kd.R_types HO893.out BK895.out (by decide)) (fun _ hk => hk.2) (.int .i64 t890)) (fun _ hk => hk.2) (.slice Ao377 t891.length co377)) (fun _ hk => ⟨hk.1.1.1.1.1.2, ⟨hk.1.1.1.1.2, ⟨hk.1.1.1.2, ⟨hk.1.1.2, hk.1.2⟩⟩⟩⟩)⟩
                               have n5_ : Aside0 (((w370.setCell ⟨gb895, 0, none⟩ (.int .i64 t890)).setCell ⟨gb895, 1, none⟩ (.slice Ao377 t891.length co377)).heap[gb836]? = some (.cells #[.int .i64 t829, .slice Ao217 t830.length co217] 30 (0, 0))) := ⟨zw BK836⟩
                               have n6_ : Aside0 (((w370.setCell ⟨gb895, 0, none⟩ (.int .i64 t890)).setCell ⟨gb895, 1, none⟩ (.slice Ao377 t891.length co377)).heap[gb837]? = some (.cells #[.int .i64 t833, .int .i64 t834, .int .i64 t835] 39 (0, 0))) := ⟨zw BK837⟩
                               have n7_ : Aside0 (((w370.setCell ⟨gb895, 0, none⟩ (.int .i64 t890)).setCell ⟨gb895, 1, none⟩ (.slice Ao377 t891.length co377)).heap[gb843]? = some (.cells #[.int .i64 t838, .slice Ao224 t839.length co224] 30 (0, 0))) := ⟨zw BK843⟩
                               have n8_ : Aside0 (((w370.setCell ⟨gb895, 0, none⟩ (.int .i64 t890)).setCell ⟨gb895, 1, none⟩ (.slice Ao377 t891.length co377)).heap[gb855]? = some (.cells #[.int .i64 t850, .slice Ao241 t851.length co241] 30 (0, 0))) := ⟨zw BK855⟩
                               have n9_ : Aside0 (((w370.setCell ⟨gb895, 0, none⟩ (.int .i64 t890)).setCell ⟨gb895, 1, none⟩ (.slice Ao377 t891.length co377)).heap[gb861]? = some (.cells #[.int .i64 t856, .slice Ao250 t857.length co250] 30 (0, 0))) := ⟨zw BK861⟩
                               have n10_ : Aside0 (((w370.setCell ⟨gb895, 0, none⟩ (.int .i64 t890)).setCell ⟨gb895, 1, none⟩ (.slice Ao377 t891.length co377)).heap[gb895]? = some (.cells #[.int .i64 t890, .slice Ao377 t891.length co377] 30 (0, 0))) := ⟨zw BK895⟩
                               have n11_ : Aside0 (Below w.heap.size w ((w370.setCell ⟨gb895, 0, none⟩ (.int .i64 t890)).setCell ⟨gb895, 1, none⟩ (.slice Ao377 t891.length co377))) := ⟨zy HB⟩
                               (try clear HO_837001)
                               (try clear HO_844001)
                               (try clear HO_856001)
                               (try clear HO_862001)
                               (try clear HO893)
                               (try clear BK836)
                               (try clear BK837)
                               (try clear BK843)
                               (try clear BK855)
                               (try clear BK861)
                               (try clear BK895)
                               (try clear HB)
                               generalize ((w370.setCell ⟨gb895, 0, none⟩ (.int .i64 t890)).setCell ⟨gb895, 1, none⟩ (.slice Ao377 t891.length co377)) = w378 at n0_ n1_ n2_ n3_ n4_ n5_ n6_ n7_ n8_ n9_ n10_ n11_ ⊢
                               have HO_837001 := n0_; have HO_844001 := n1_; have HO_856001 := n2_; have HO_862001 := n3_; have HO893 := n4_; have BK836 := n5_; have BK837 := n6_; have BK843 := n7_; have BK855 := n8_; have BK861 := n9_; have BK895 := n10_; have HB := n11_; clear n0_ n1_ n2_ n3_ n4_ n5_ n6_ n7_ n8_ n9_ n10_ n11_; replace HO_837001 := Aside0.mk (Kd.R_drew HO_837001.out); replace HO_844001 := Aside0.mk (Kd.R_drew HO_844001.out); replace HO_856001 := Aside0.mk (Kd.R_drew HO_856001.out); replace HO_862001 := Aside0.mk (Kd.R_drew HO_862001.out); replace HO893 := Aside0.mk (Kd.R_drew HO893.out); replace BK836 := Aside0.mk (blk_drew BK836.out); replace BK837 := Aside0.mk (blk_drew BK837.out); replace BK843 := Aside0.mk (blk_drew BK843.out); replace BK855 := Aside0.mk (blk_drew BK855.out); replace BK861 := Aside0.mk (blk_drew BK861.out); replace BK895 := Aside0.mk (blk_drew BK895.out); replace HB := Aside0.mk (below_drew1 HB.out)
                               have p897 : 0 ≤ ((t830.length : Int) : Int) := of_decide_eq_true zO4_5
                               have q897 : (t830.length : Int) < (t839.length : Int) := of_decide_eq_true zO4_5
                               obtain ⟨ad897, e897, hx897_0, hx897_1, hx897_2⟩ := at_T39 (Kd.R_reads' HO_844001.out).2.2 (t830.length : Int) p897 q897
                               cases e897
                               (try simp only [Go.IntWalk.toNatUp] at hx897_0)
                               (try simp only [Go.IntWalk.toNatUp] at hx897_1)
                               (try simp only [Go.IntWalk.toNatUp] at hx897_2)
                               replace p897 := eq_true p897; replace q897 := eq_true q897
                               refine start_ (n := 19) (S := fun w' => w'.cell? ⟨gb895, 0, none⟩ = some (.int .i64 t890) ∧ w'.cell? ⟨gb895, 1, none⟩ = some (.slice Ao377 t891.length co377) ∧ w'.cell? ⟨gb836, 0, none⟩ = some (.int .i64 t829) ∧ w'.cell? ⟨gb836, 1, none⟩ = some (.slice Ao217 t830.length co217) ∧ w'.cell? ⟨gb843, 0, none⟩ = some (.int .i64 t838) ∧ w'.cell? ⟨gb843, 1, none⟩ = some (.slice (some ad897) t839.length co224) ∧ w'.cell? ⟨gb837, 0, none⟩ = some (.int .i64 t833) ∧ w'.cell? ⟨gb837, 1, none⟩ = some (.int .i64 t834) ∧ w'.cell? ⟨gb837, 2, none⟩ = some (.int .i64 t835) ∧ w'.cell? (ad897.add (((t830.length : Int)).toNat * 3)) = some (.int .i64 ((rd_T39 t839 (t830.length : Int)).f0)) ∧ w'.cell? ⟨(ad897.add (((t830.length : Int)).toNat * 3)).block, (ad897.add (((t830.length : Int)).toNat * 3)).off + 1, none⟩ = some (.int .i64 ((rd_T39 t839 (t830.length : Int)).f1)) ∧ w'.cell? ⟨(ad897.add (((t830.length : Int)).toNat * 3)).block, (ad897.add (((t830.length : Int)).toNat * 3)).off + 2, none⟩ = some (.int .i64 ((rd_T39 t839 (t830.length : Int)).f2))) (ds := []) #[false, false, false, false, false, false, false, false, false, false, false, false, false, false, false, false, false, false, false] (by kernel_rfl) rfl rfl ⟨(blk_cell BK895.out 0).trans rfl, (blk_cell BK895.out 1).trans rfl, (blk_cell BK836.out 0).trans rfl, (blk_cell BK836.out 1).trans rfl, (blk_cell BK843.out 0).trans rfl, (blk_cell BK843.out 1).trans rfl, (blk_cell BK837.out 0).trans rfl, (blk_cell BK837.out 1).trans rfl, (blk_cell BK837.out 2).trans rfl, hx897_0, hx897_1, hx897_2⟩ (fun hHeld => ?_); refine with_tabW laws_FnLaddersHidden.tab51 laws_FnLaddersHidden.bits51 (fun HT_ HW_ => ?_)
                               generalize w378.drew = w379 at HO_837001 HO_844001 HO_856001 HO_862001 HO893 BK836 BK837 BK843 BK855 BK861 BK895 HB hx897_0 hx897_1 hx897_2 hHeld ⊢
                               refine zA 0 413 HT_ ?_
                               refine zA 1 414 HT_ ?_
                               refine zA 2 415 HT_ ?_
                               refine zT 3 416 HT_ HW_ hHeld ?_
                               refine zT 4 417 HT_ HW_ hHeld ?_
                               refine zO 5 (some 418) HT_ (fun K hK => ?_)
                               refine goes_ Try.func8 (by kernel_rfl) rfl #[.agg #[.int .i64 t890, .slice Ao377 t891.length co377], .agg #[.int .i64 t829, .slice Ao217 t830.length co217]] (by rfl) rfl rfl zO4_3 ?_
                               with_reducible refine (laws_jPuzzle.calls kj210 t890 _ _ t891 t829 _ _ t830 true _ ?side1 ?side2 ?side3 ?side4 A355.out).mono ?_
                               (case side1 => repeat (first | exact (Kd.R_reads' HO893.out).2.2 | (with_reducible refine Kd.C_alloc ?_ _) | (with_reducible refine Kd.C_drewN ?_ _) | (with_reducible refine Kd.C_drew ?_)))
                               (case side2 => exact (Kd.R_reads' HO893.out).2.1)
                               (case side3 => repeat (first | exact (Kd.R_reads' HO_837001.out).2.2 | (with_reducible refine Kd.C_alloc ?_ _) | (with_reducible refine Kd.C_drewN ?_ _) | (with_reducible refine Kd.C_drew ?_)))
                               (case side4 => exact (Kd.R_reads' HO_837001.out).2.1)
                               rintro e w380 ⟨rfl, hb⟩
                               have HS9_ := (hb.cell (World.block_lt_of_cell? _ _ (hHeld.2.2.2.2.2.2.2.2.2.1))).trans (hHeld.2.2.2.2.2.2.2.2.2.1)
                               have HS10_ := (hb.cell (World.block_lt_of_cell? _ _ (hHeld.2.2.2.2.2.2.2.2.2.2.1))).trans (hHeld.2.2.2.2.2.2.2.2.2.2.1)
                               have HS11_ := (hb.cell (World.block_lt_of_cell? _ _ (hHeld.2.2.2.2.2.2.2.2.2.2.2))).trans (hHeld.2.2.2.2.2.2.2.2.2.2.2)
                               refine ⟨_, rfl, ?_⟩
                               replace HO_837001 := zo HO_837001 hb; replace HO_844001 := zo HO_844001 hb; replace HO_856001 := zo HO_856001 hb; replace HO_862001 := zo HO_862001 hb; replace HO893 := zo HO893 hb; replace BK836 := zb BK836 hb; replace BK837 := zb BK837 hb; replace BK843 := zb BK843 hb; replace BK855 := zb BK855 hb; replace BK861 := zb BK861 hb; replace BK895 := zb BK895 hb; replace HB := zh HB hb
                               (try clear hb)
                               (try clear hb2)
                               (try clear hk)
                               (try clear hi)
                               refine hK.out _ _ ⟨(blk_cell BK895.out 0).trans rfl, (blk_cell BK895.out 1).trans rfl, (blk_cell BK836.out 0).trans rfl, (blk_cell BK836.out 1).trans rfl, (blk_cell BK843.out 0).trans rfl, (blk_cell BK843.out 1).trans rfl, (blk_cell BK837.out 0).trans rfl, (blk_cell BK837.out 1).trans rfl, (blk_cell BK837.out 2).trans rfl, HS9_, HS10_, HS11_⟩ (fun hHeld => ?_)
                               clear hK K
                               refine zN 418 ?_
                               refine zA 6 419 HT_ ?_
                               refine zA 7 420 HT_ ?_
                               refine zA 8 421 HT_ ?_
                               refine zA 9 422 HT_ ?_
                               refine zA 11 424 HT_ ?_
                               refine zT 10 423 HT_ HW_ hHeld ?_
                               refine zT 12 425 HT_ HW_ hHeld ?_
                               refine zA 13 426 HT_ ?_
                               refine zA 14 427 HT_ ?_
                               refine zT 15 428 HT_ HW_ hHeld ?_
                               refine zT 16 429 HT_ HW_ hHeld ?_
                               refine zA 17 430 HT_ ?_
                               refine zA 18 431 HT_ ?_
                               refine done_ (done_of HT_.out (by kernel_rfl)) ?_
                               try go_wp2
                               go_meet
                               case rel => exact ⟨_, H', ⟨by have := HJ7.out; have := HJ32.out; have := HJ134.out; have := HJ176.out; have := HJ210.out; first | omega | exact Nat.le_refl _⟩, ⟨by (with_reducible repeat (first | apply Kd.R_alloc | apply Kd.R_drewN | apply Kd.R_drew)); exact Kd.R_mono HO_856001.out (fun _ hk => hk.2.2.1)⟩, ⟨by (with_reducible repeat (first | apply Kd.R_alloc | apply Kd.R_drewN | apply Kd.R_drew)); exact Kd.R_mono HO_862001.out (fun _ hk => hk.2.2.1)⟩, zk BK855, zk BK861, ⟨zy HB⟩⟩
                            rw [if_neg c358] at H
                            exact absurd H (by simp)
                          rw [if_neg c357] at H
                          exact absurd H (by simp)
                        replace c356 := Bool.eq_false_iff.mpr c356
                        subst c356; rw [if_neg (show ¬ (false = true) by decide)] at H
                        obtain rfl := Option.some.inj H
                        exact absurd HR_.out (by decide)
                      replace c354 := Bool.eq_false_iff.mpr c354
                      subst c354; rw [if_neg (show ¬ (false = true) by decide)] at H
                      obtain rfl := Option.some.inj H
                      exact absurd HR_.out (by decide)
                    replace c352 := Bool.eq_false_iff.mpr c352
                    subst c352; rw [if_neg (show ¬ (false = true) by decide)] at H; have H' := Aside0.mk H; clear H
                    as_aux_lemma =>
                     go_wp2
                     go_meet
                     case rel => exact ⟨_, H', ⟨by have := HJ7.out; have := HJ32.out; have := HJ134.out; have := HJ176.out; have := HJ210.out; first | omega | exact Nat.le_refl _⟩, ⟨by (with_reducible repeat (first | apply Kd.R_alloc | apply Kd.R_drewN | apply Kd.R_drew)); exact Kd.R_mono HO_856001.out (fun _ hk => hk.2.2.1)⟩, ⟨by (with_reducible repeat (first | apply Kd.R_alloc | apply Kd.R_drewN | apply Kd.R_drew)); exact Kd.R_mono HO_862001.out (fun _ hk => hk.2.2.1)⟩, zk BK855, zk BK861, ⟨zy HB⟩⟩
                  (try clear hz760); (try clear hz766); (try clear hz772); (try clear hz793); (try clear hz800); (try clear hz806); (try clear hz812); (try clear hz836); (try clear hz837); (try clear hz843); (try clear hz849); (try clear hz855); (try clear hz861); (try clear hz867); (try clear hz874); (try clear hz875); (try clear hz884); (try clear hz895)
                  clear HC351
                  obtain ⟨kq, HA, HJ350, HO_856001, HO_862001, BK855, BK861, HB⟩ := hcut
                  cases kq with
                  | zero => exact absurd HA.out (by simp [laws_FnLaddersHidden.j7])
                  | succ kj350 =>
                    have H := HA.out; clear HA; simp only [laws_FnLaddersHidden.j7] at H; have HC381 := Aside0.mk H; clear H
                    as_aux_lemma =>
                     go_upto_region 53 with (fail)
                     go_cut [440] from 1 to 0 (fun v440 wc => ∃ (kq : Nat) (x440_380 : Bool), v440 = .bool x440_380 ∧ Aside0 (laws_FnLaddersHidden.j8 kq t854 x440_380 t850 t851 t856 t857 = some r) ∧ Aside0 (kq ≤ kj350) ∧ Aside0 (Kd.R k39 39 wc w.heap.size (fun k_ => some k_ ≠ ((.slice Ao250 t857.length co250) : Value).ownBlock) (.slice Ao241 t851.length co241) t851) ∧ Aside0 (Kd.R k39 39 wc w.heap.size (fun k_ => some k_ ≠ ((.slice Ao241 t851.length co241) : Value).ownBlock) (.slice Ao250 t857.length co250) t857) ∧ Aside0 (wc.heap[gb855]? = some (.cells #[.int .i64 t850, (.slice Ao241 t851.length co241)] 30 (0, 0))) ∧ Aside0 (wc.heap[gb861]? = some (.cells #[.int .i64 t856, (.slice Ao250 t857.length co250)] 30 (0, 0))) ∧ Aside0 (Below w.heap.size w wc))
                     case first =>
                       have H := HC381.out; clear HC381
                       by_cases c382 : t860 = true
                       · subst c382
                         rw [if_pos rfl] at H; have H' := Aside0.mk H; clear H
                         replace hNB855_861 := NB855_861.out
                         replace hNB861_855 := NB861_855.out
                         replace hz855 := zc2 BK855
                         as_aux_lemma =>
                          go_wp2
                          go_meet
                          case rel => exact ⟨_, ((t854 == (wrap64 ((t851.length : Int) - 1)))), zu, H', ⟨by have := HJ7.out; have := HJ32.out; have := HJ134.out; have := HJ176.out; have := HJ210.out; have := HJ350.out; first | omega | exact Nat.le_refl _⟩, zp HO_856001, zp HO_862001, zk BK855, zk BK861, ⟨zy HB⟩⟩
                       replace c382 := Bool.eq_false_iff.mpr c382
                       subst c382; rw [if_neg (show ¬ (false = true) by decide)] at H; have H' := Aside0.mk H; clear H
                       as_aux_lemma =>
                        go_wp2
                        go_meet
                        case rel => exact ⟨_, (false), zu, H', ⟨by have := HJ7.out; have := HJ32.out; have := HJ134.out; have := HJ176.out; have := HJ210.out; have := HJ350.out; first | omega | exact Nat.le_refl _⟩, zp HO_856001, zp HO_862001, zk BK855, zk BK861, ⟨zy HB⟩⟩
                     (try clear hz760); (try clear hz766); (try clear hz772); (try clear hz793); (try clear hz800); (try clear hz806); (try clear hz812); (try clear hz836); (try clear hz837); (try clear hz843); (try clear hz849); (try clear hz855); (try clear hz861); (try clear hz867); (try clear hz874); (try clear hz875); (try clear hz884); (try clear hz895)
                     clear HC381
                     obtain ⟨kq, x440_380, rfl, HA, HJ380, HO_856001, HO_862001, BK855, BK861, HB⟩ := hcut
                     cases kq with
                     | zero => exact absurd HA.out (by simp [laws_FnLaddersHidden.j8])
                     | succ kj380 =>
                       have H := HA.out; clear HA; simp only [laws_FnLaddersHidden.j8] at H
                       by_cases c385 : x440_380 = true
                       · subst c385
                         rw [if_pos rfl] at H
                         by_cases c386 : 0 ≤ t854
                         · rw [if_pos c386] at H
                           have c386b0 : decide (0 ≤ t854) = true := decide_eq_true c386; clear c386
                           by_cases c387 : t854 < (t851.length : Int)
                           · rw [if_pos c387] at H
                             have c387b0 : decide (t854 < (t851.length : Int)) = true := decide_eq_true c387; clear c387; replace H := Option.bind_eq_some_iff.mp H; obtain ⟨⟨t899, t900, t903⟩, A3880, H⟩ := H
                             replace H : (if t903 = true then ((laws_jPuzzle.f kj380 t899 t900 t850 t851).bind fun t905 => (some t905)) else (some false)) = some r := H
                             have A388 := Aside0.mk A3880; clear A3880
                             by_cases c389 : t903 = true
                             · subst c389
                               rw [if_pos rfl] at H; replace H := Option.bind_eq_some_iff.mp H; obtain ⟨t905, A3900, H⟩ := H
                               replace H : (some t905) = some r := H
                               have A390 := Aside0.mk A3900; clear A3900
                               obtain rfl := Option.some.inj H
                               as_aux_lemma =>
                                try go_wp2
                                replace HO_856001 := Aside0.mk (Kd.R_drew HO_856001.out); replace HO_862001 := Aside0.mk (Kd.R_drew HO_862001.out); replace BK855 := Aside0.mk (blk_drew BK855.out); replace BK861 := Aside0.mk (blk_drew BK861.out); replace HB := Aside0.mk (below_drew1 HB.out)
                                have p898 : 0 ≤ (t854 : Int) := of_decide_eq_true zO4_5
                                have q898 : t854 < (t851.length : Int) := of_decide_eq_true zO4_5
                                obtain ⟨ad898, e898, hx898_0, hx898_1, hx898_2⟩ := at_T39 (Kd.R_reads' HO_856001.out).2.2 t854 p898 q898
                                cases e898; replace p898 := eq_true p898; replace q898 := eq_true q898
                                refine start_ (n := 13) (S := fun w' => w'.cell? ⟨gb861, 0, none⟩ = some (.int .i64 t856) ∧ w'.cell? ⟨gb861, 1, none⟩ = some (.slice Ao250 t857.length co250) ∧ w'.cell? ⟨gb855, 0, none⟩ = some (.int .i64 t850) ∧ w'.cell? ⟨gb855, 1, none⟩ = some (.slice (some ad898) t851.length co241) ∧ w'.cell? (ad898.add ((t854).toNat * 3)) = some (.int .i64 ((rd_T39 t851 t854).f0)) ∧ w'.cell? ⟨(ad898.add ((t854).toNat * 3)).block, (ad898.add ((t854).toNat * 3)).off + 1, none⟩ = some (.int .i64 ((rd_T39 t851 t854).f1)) ∧ w'.cell? ⟨(ad898.add ((t854).toNat * 3)).block, (ad898.add ((t854).toNat * 3)).off + 2, none⟩ = some (.int .i64 ((rd_T39 t851 t854).f2))) (ds := []) #[false, false, false, false, false, false, false, false, false, false, false, false, false] (by kernel_rfl) rfl rfl ⟨(blk_cell BK861.out 0).trans rfl, (blk_cell BK861.out 1).trans rfl, (blk_cell BK855.out 0).trans rfl, (blk_cell BK855.out 1).trans rfl, hx898_0, hx898_1, hx898_2⟩ (fun hHeld => ?_); refine with_tabW laws_FnLaddersHidden.tab54 laws_FnLaddersHidden.bits54 (fun HT_ HW_ => ?_)
                                generalize wc.drew = w391 at HO_856001 HO_862001 BK855 BK861 HB hx898_0 hx898_1 hx898_2 hHeld ⊢
                                refine zA 1 443 HT_ ?_
                                refine zA 3 445 HT_ ?_
                                refine zT 0 442 HT_ HW_ hHeld ?_
                                refine zT 2 444 HT_ HW_ hHeld ?_
                                refine zA 4 446 HT_ ?_
                                refine zT 5 447 HT_ HW_ hHeld ?_
                                refine join_ (σ := Value × Nat) 2 #[true, true, true, true, true, true, true, true, true, true, true, false, false] (fun s_ => [(448, .tuple #[.agg #[.int .i64 t899, s_.1], .bool true]), (68, .pointer (some ⟨s_.2, 0, none⟩)), (441, .tuple #[.agg #[.int .i64 t899, s_.1], .bool true]), (449, .agg #[.int .i64 t899, s_.1]), (450, .bool true)]) (fun s_ w' => (w'.cell? ⟨gb861, 0, none⟩ = some (.int .i64 t856) ∧ w'.cell? ⟨gb861, 1, none⟩ = some (.slice Ao250 t857.length co250) ∧ w'.cell? ⟨gb855, 0, none⟩ = some (.int .i64 t850) ∧ w'.cell? ⟨gb855, 1, none⟩ = some (.slice (some ad898) t851.length co241) ∧ w'.cell? (ad898.add ((t854).toNat * 3)) = some (.int .i64 ((rd_T39 t851 t854).f0)) ∧ w'.cell? ⟨(ad898.add ((t854).toNat * 3)).block, (ad898.add ((t854).toNat * 3)).off + 1, none⟩ = some (.int .i64 ((rd_T39 t851 t854).f1)) ∧ w'.cell? ⟨(ad898.add ((t854).toNat * 3)).block, (ad898.add ((t854).toNat * 3)).off + 2, none⟩ = some (.int .i64 ((rd_T39 t851 t854).f2))) ∧ (Kd.R k39 39 w' w.heap.size (fun k_ => some k_ ≠ (.slice (some ad898) t851.length co241 : Value).ownBlock ∧ some k_ ≠ (.slice Ao250 t857.length co250 : Value).ownBlock) s_.1 t900) ∧ (Kd.R k39 39 w' w.heap.size (fun k_ => some k_ ≠ (s_.1 : Value).ownBlock ∧ some k_ ≠ (.slice Ao250 t857.length co250 : Value).ownBlock) (.slice (some ad898) t851.length co241) t851) ∧ (Kd.R k39 39 w' w.heap.size (fun k_ => some k_ ≠ (s_.1 : Value).ownBlock ∧ some k_ ≠ (.slice (some ad898) t851.length co241 : Value).ownBlock) (.slice Ao250 t857.length co250) t857) ∧ (w'.heap[gb855]? = some (.cells #[.int .i64 t850, .slice (some ad898) t851.length co241] 30 (0, 0))) ∧ (w'.heap[gb861]? = some (.cells #[.int .i64 t856, .slice Ao250 t857.length co250] 30 (0, 0))) ∧ (w'.heap[s_.2]? = some (.cells #[.int .i64 0, .slice none 0 0] 30 (0, 0))) ∧ (w.heap.size ≤ s_.2) ∧ (w.heap.size ≤ s_.2) ∧ (gb855 ≠ s_.2) ∧ (s_.2 ≠ gb855) ∧ (gb861 ≠ s_.2) ∧ (s_.2 ≠ gb861) ∧ (Below w.heap.size w w')) ?_ ?_
                                rotate_left
                                · intro hCont
                                  refine two_ (i := 6) (j := 10) (Ni := some 448) (Nj := some 68) #[true, true, true, true, true, true, true, false, false, false, false, false, false] #[true, true, true, true, true, true, false, false, false, false, true, false, false] rfl rfl rfl rfl (two_of HT_.out (by kernel_rfl)) (by decide) (by decide) (fun K hK => ?_) (fun K hK => ?_)
                                  · skip
                                    refine goes_ Try.func22 (by kernel_rfl) rfl #[.agg #[.int .i64 t856, .slice Ao250 t857.length co250], .agg #[.int .i64 ((rd_T39 t851 t854).f0), .int .i64 ((rd_T39 t851 t854).f1), .int .i64 ((rd_T39 t851 t854).f2)]] (by rfl) rfl rfl zO4_3 ?_
                                    with_reducible refine (impl_AddClue.calls kj380 t856 _ _ t857 ((rd_T39 t851 t854).f0) ((rd_T39 t851 t854).f1) ((rd_T39 t851 t854).f2) t899 t900 true _ ?side1 ?side2 A388.out).mono ?_
                                    (case side1 => repeat (first | exact (Kd.R_reads' HO_862001.out).2.2 | (with_reducible refine Kd.C_alloc ?_ _) | (with_reducible refine Kd.C_drewN ?_ _) | (with_reducible refine Kd.C_drew ?_)))
                                    (case side2 => exact (Kd.R_reads' HO_862001.out).2.1)
                                    rintro e w392 ⟨v901, rfl, ho0, hb⟩
                                    have HS4_ := (hb.cell (World.block_lt_of_cell? _ _ (hHeld.2.2.2.2.1))).trans (hHeld.2.2.2.2.1)
                                    have HS5_ := (hb.cell (World.block_lt_of_cell? _ _ (hHeld.2.2.2.2.2.1))).trans (hHeld.2.2.2.2.2.1)
                                    have HS6_ := (hb.cell (World.block_lt_of_cell? _ _ (hHeld.2.2.2.2.2.2))).trans (hHeld.2.2.2.2.2.2)
                                    refine ⟨_, rfl, ?_⟩
                                    have n0_ := Aside0.mk (Kd.R_elder' (zs HO_856001) (Kd.R_base ho0) hb)
                                    have n1_ := Aside0.mk (Kd.R_elder' (zs HO_862001) (Kd.R_base ho0) hb)
                                    have HO902 := Aside0.mk (Kd.R_lower (Kd.R_new' (Kd.R_new' ho0 (Kd.R_lt (zs HO_856001))) (Kd.R_lt (zs HO_862001))) (below_size (zy HB)))
                                    replace BK855 := zb BK855 hb; replace BK861 := zb BK861 hb; replace HB := zh HB hb; clear HO_856001; have HO_856001 := n0_; clear n0_; clear HO_862001; have HO_862001 := n1_; clear n1_
                                    (try clear hb)
                                    (try clear hb2)
                                    (try clear hk)
                                    (try clear hi)
                                    (try clear ho0)
                                    refine hK.out _ _ ⟨(blk_cell BK861.out 0).trans rfl, (blk_cell BK861.out 1).trans rfl, (blk_cell BK855.out 0).trans rfl, (blk_cell BK855.out 1).trans rfl, HS4_, HS5_, HS6_⟩ (fun hHeld => ?_)
                                    clear hK K
                                    refine zN 448 ?_
                                    refine zA 7 441 HT_ ?_
                                    refine zA 8 449 HT_ ?_
                                    refine zA 9 450 HT_ ?_
                                    refine zO 10 (some 68) HT_ (fun K hK => ?_)
                                    refine box_step ?hg (N := 68) ?hd (cs := #[.int .i64 0, .slice none 0 0]) (t := 30) ?hr ?_; (case hd => rfl); (case hg => rfl); (case hr => first | (go_simp; done) | (go_simp; rfl))
                                    intro gb904 hg w393 hbox hb
                                    have HS4_ := (hb.cell (World.block_lt_of_cell? _ _ (hHeld.2.2.2.2.1))).trans (hHeld.2.2.2.2.1)
                                    have HS5_ := (hb.cell (World.block_lt_of_cell? _ _ (hHeld.2.2.2.2.2.1))).trans (hHeld.2.2.2.2.2.1)
                                    have HS6_ := (hb.cell (World.block_lt_of_cell? _ _ (hHeld.2.2.2.2.2.2))).trans (hHeld.2.2.2.2.2.2)
                                    have BK904 := Aside0.mk (hbox)
                                    have GW904 := zg HB hg
                                    have GE904 := GW904
                                    have NB855_904 := zl BK855 hg
                                    have NB904_855 := zr BK855 hg
                                    have NB861_904 := zl BK861 hg
                                    have NB904_861 := zr BK861 hg
                                    replace HO_856001 := zo HO_856001 hb; replace HO_862001 := zo HO_862001 hb; replace HO902 := zo HO902 hb; replace BK855 := zb BK855 hb; replace BK861 := zb BK861 hb; replace HB := zh HB hb; clear hb hbox hg
                                    refine hK.out _ _ ⟨(blk_cell BK861.out 0).trans rfl, (blk_cell BK861.out 1).trans rfl, (blk_cell BK855.out 0).trans rfl, (blk_cell BK855.out 1).trans rfl, HS4_, HS5_, HS6_⟩ (fun hHeld => ?_)
                                    clear hK K
                                    refine zN 68 ?_
                                    exact norm_ zO4_4 (hCont (v901, gb904) _ ⟨hHeld, zO4_2, zO4_0, zO4_1, (zq BK855), (zq BK861), (zq BK904), GW904.out, GE904.out, NB855_904.out, NB904_855.out, NB861_904.out, NB904_861.out, (zy HB)⟩)
                                  skip
                                  refine box_step ?hg (N := 68) ?hd (cs := #[.int .i64 0, .slice none 0 0]) (t := 30) ?hr ?_; (case hd => rfl); (case hg => rfl); (case hr => first | (go_simp; done) | (go_simp; rfl))
                                  intro gb904 hg w392 hbox hb
                                  have HS4_ := (hb.cell (World.block_lt_of_cell? _ _ (hHeld.2.2.2.2.1))).trans (hHeld.2.2.2.2.1)
                                  have HS5_ := (hb.cell (World.block_lt_of_cell? _ _ (hHeld.2.2.2.2.2.1))).trans (hHeld.2.2.2.2.2.1)
                                  have HS6_ := (hb.cell (World.block_lt_of_cell? _ _ (hHeld.2.2.2.2.2.2))).trans (hHeld.2.2.2.2.2.2)
                                  have BK904 := Aside0.mk (hbox)
                                  have GW904 := zg HB hg
                                  have GE904 := GW904
                                  have NB855_904 := zl BK855 hg
                                  have NB904_855 := zr BK855 hg
                                  have NB861_904 := zl BK861 hg
                                  have NB904_861 := zr BK861 hg
                                  replace HO_856001 := zo HO_856001 hb; replace HO_862001 := zo HO_862001 hb; replace BK855 := zb BK855 hb; replace BK861 := zb BK861 hb; replace HB := zh HB hb; clear hb hbox hg
                                  refine hK.out _ _ ⟨(blk_cell BK861.out 0).trans rfl, (blk_cell BK861.out 1).trans rfl, (blk_cell BK855.out 0).trans rfl, (blk_cell BK855.out 1).trans rfl, HS4_, HS5_, HS6_⟩ (fun hHeld => ?_)
                                  clear hK K
                                  refine zN 68 ?_
                                  refine zO 6 (some 448) HT_ (fun K hK => ?_)
                                  refine goes_ Try.func22 (by kernel_rfl) rfl #[.agg #[.int .i64 t856, .slice Ao250 t857.length co250], .agg #[.int .i64 ((rd_T39 t851 t854).f0), .int .i64 ((rd_T39 t851 t854).f1), .int .i64 ((rd_T39 t851 t854).f2)]] (by rfl) rfl rfl zO4_3 ?_
                                  with_reducible refine (impl_AddClue.calls kj380 t856 _ _ t857 ((rd_T39 t851 t854).f0) ((rd_T39 t851 t854).f1) ((rd_T39 t851 t854).f2) t899 t900 true _ ?side1 ?side2 A388.out).mono ?_
                                  (case side1 => repeat (first | exact (Kd.R_reads' HO_862001.out).2.2 | (with_reducible refine Kd.C_alloc ?_ _) | (with_reducible refine Kd.C_drewN ?_ _) | (with_reducible refine Kd.C_drew ?_)))
                                  (case side2 => exact (Kd.R_reads' HO_862001.out).2.1)
                                  rintro e w393 ⟨v901, rfl, ho0, hb⟩
                                  have HS4_ := (hb.cell (World.block_lt_of_cell? _ _ (hHeld.2.2.2.2.1))).trans (hHeld.2.2.2.2.1)
                                  have HS5_ := (hb.cell (World.block_lt_of_cell? _ _ (hHeld.2.2.2.2.2.1))).trans (hHeld.2.2.2.2.2.1)
                                  have HS6_ := (hb.cell (World.block_lt_of_cell? _ _ (hHeld.2.2.2.2.2.2))).trans (hHeld.2.2.2.2.2.2)
                                  refine ⟨_, rfl, ?_⟩
                                  have n0_ := Aside0.mk (Kd.R_elder' (zs HO_856001) (Kd.R_base ho0) hb)
                                  have n1_ := Aside0.mk (Kd.R_elder' (zs HO_862001) (Kd.R_base ho0) hb)
                                  have HO902 := Aside0.mk (Kd.R_lower (Kd.R_new' (Kd.R_new' ho0 (Kd.R_lt (zs HO_856001))) (Kd.R_lt (zs HO_862001))) (below_size (zy HB)))
                                  replace BK855 := zb BK855 hb; replace BK861 := zb BK861 hb; replace BK904 := zb BK904 hb; replace HB := zh HB hb; clear HO_856001; have HO_856001 := n0_; clear n0_; clear HO_862001; have HO_862001 := n1_; clear n1_
                                  (try clear hb)
                                  (try clear hb2)
                                  (try clear hk)
                                  (try clear hi)
                                  (try clear ho0)
                                  refine hK.out _ _ ⟨(blk_cell BK861.out 0).trans rfl, (blk_cell BK861.out 1).trans rfl, (blk_cell BK855.out 0).trans rfl, (blk_cell BK855.out 1).trans rfl, HS4_, HS5_, HS6_⟩ (fun hHeld => ?_)
                                  clear hK K
                                  refine zN 448 ?_
                                  refine zA 7 441 HT_ ?_
                                  refine zA 8 449 HT_ ?_
                                  refine zA 9 450 HT_ ?_
                                  exact norm_ zO4_4 (hCont (v901, gb904) _ ⟨hHeld, zO4_2, zO4_0, zO4_1, (zq BK855), (zq BK861), (zq BK904), GW904.out, GE904.out, NB855_904.out, NB904_855.out, NB861_904.out, NB904_861.out, (zy HB)⟩)
                                rintro ⟨v901, gb904⟩ w394 ⟨hS_, h0_, h1_, h2_, h3_, h4_, h5_, h6_, h7_, h8_, h9_, h10_, h11_, h12_⟩
                                have n0_ : Aside0 (Kd.R k39 39 w394 w.heap.size (fun k_ => some k_ ≠ (.slice (some ad898) t851.length co241 : Value).ownBlock ∧ some k_ ≠ (.slice Ao250 t857.length co250 : Value).ownBlock) v901 t900) := ⟨h0_⟩
                                have n1_ : Aside0 (Kd.R k39 39 w394 w.heap.size (fun k_ => some k_ ≠ (v901 : Value).ownBlock ∧ some k_ ≠ (.slice Ao250 t857.length co250 : Value).ownBlock) (.slice (some ad898) t851.length co241) t851) := ⟨h1_⟩
                                have n2_ : Aside0 (Kd.R k39 39 w394 w.heap.size (fun k_ => some k_ ≠ (v901 : Value).ownBlock ∧ some k_ ≠ (.slice (some ad898) t851.length co241 : Value).ownBlock) (.slice Ao250 t857.length co250) t857) := ⟨h2_⟩
                                have n3_ : Aside0 (w394.heap[gb855]? = some (.cells #[.int .i64 t850, .slice (some ad898) t851.length co241] 30 (0, 0))) := ⟨h3_⟩
                                have n4_ : Aside0 (w394.heap[gb861]? = some (.cells #[.int .i64 t856, .slice Ao250 t857.length co250] 30 (0, 0))) := ⟨h4_⟩
                                have n5_ : Aside0 (w394.heap[gb904]? = some (.cells #[.int .i64 0, .slice none 0 0] 30 (0, 0))) := ⟨h5_⟩
                                have n6_ : Aside0 (w.heap.size ≤ gb904) := ⟨h6_⟩
                                have n7_ : Aside0 (w.heap.size ≤ gb904) := ⟨h7_⟩
                                have n8_ : Aside0 (gb855 ≠ gb904) := ⟨h8_⟩
                                have n9_ : Aside0 (gb904 ≠ gb855) := ⟨h9_⟩
                                have n10_ : Aside0 (gb861 ≠ gb904) := ⟨h10_⟩
                                have n11_ : Aside0 (gb904 ≠ gb861) := ⟨h11_⟩
                                have n12_ : Aside0 (Below w.heap.size w w394) := ⟨h12_⟩
                                clear HO_856001; clear HO_862001; clear BK855; clear BK861; clear HB; clear h0_ h1_ h2_ h3_ h4_ h5_ h6_ h7_ h8_ h9_ h10_ h11_ h12_; have HO902 := n0_; have HO_856001 := n1_; have HO_862001 := n2_; have BK855 := n3_; have BK861 := n4_; have BK904 := n5_; have GW904 := n6_; have GE904 := n7_; have NB855_904 := n8_; have NB904_855 := n9_; have NB861_904 := n10_; have NB904_861 := n11_; have HB := n12_; clear n0_ n1_ n2_ n3_ n4_ n5_ n6_ n7_ n8_ n9_ n10_ n11_ n12_
                                have hHeld : w394.cell? ⟨gb861, 0, none⟩ = some (.int .i64 t856) ∧ w394.cell? ⟨gb861, 1, none⟩ = some (.slice Ao250 t857.length co250) ∧ w394.cell? ⟨gb855, 0, none⟩ = some (.int .i64 t850) ∧ w394.cell? ⟨gb855, 1, none⟩ = some (.slice (some ad898) t851.length co241) ∧ w394.cell? (ad898.add ((t854).toNat * 3)) = some (.int .i64 ((rd_T39 t851 t854).f0)) ∧ w394.cell? ⟨(ad898.add ((t854).toNat * 3)).block, (ad898.add ((t854).toNat * 3)).off + 1, none⟩ = some (.int .i64 ((rd_T39 t851 t854).f1)) ∧ w394.cell? ⟨(ad898.add ((t854).toNat * 3)).block, (ad898.add ((t854).toNat * 3)).off + 2, none⟩ = some (.int .i64 ((rd_T39 t851 t854).f2)) := hS_
                                obtain ⟨Ao396, co396, eo396⟩ := Kd.R_slice HO902.out
                                (first | subst eo396 | (injection eo396 with f1_ f2_ f3_; have f4_ := f1_.symm; have f5_ := f3_.symm; clear f1_ f2_ f3_; subst f4_; subst f5_))
                                refine norm_ (a' := ?_) ?_ ?_
                                rotate_left
                                · simp only [putAll, Act.put, List.setIfInBounds_toArray, List.set_cons_zero, List.set_cons_succ]
                                  rfl
                                refine zO 11 none HT_ (fun K hK => ?_)
                                have hs395 : w394.cell? ⟨gb904, 0, none⟩ = some (.int .i64 0) := (blk_cell BK904.out 0).trans rfl
                                have hfs395 := blk_frozen BK904.out 0
                                have hns395_0 := NB855_904.out; have hns395_1 := NB861_904.out; have hms395_0 := NB904_855.out; have hms395_1 := NB904_861.out
                                have hs397 : w394.cell? ⟨gb904, 1, none⟩ = some (.slice none 0 0) := (blk_cell BK904.out 1).trans rfl
                                have hfs397 := blk_frozen BK904.out 1
                                have hns397_0 := NB855_904.out; have hns397_1 := NB861_904.out; have hms397_0 := NB904_855.out; have hms397_1 := NB904_861.out
                                refine skip_ (w1 := ?_) (by rfl) rfl ?_ ?_
                                rotate_left
                                · go_simp
                                  rfl
                                refine hK.out _ _ ⟨((cell_far (p := ⟨gb904, _, none⟩) NB861_904.out _).trans (((cell_far (p := ⟨gb904, _, none⟩) NB861_904.out _).trans (hHeld.1)))), ((cell_far (p := ⟨gb904, _, none⟩) NB861_904.out _).trans (((cell_far (p := ⟨gb904, _, none⟩) NB861_904.out _).trans (hHeld.2.1)))), ((cell_far (p := ⟨gb904, _, none⟩) NB855_904.out _).trans (((cell_far (p := ⟨gb904, _, none⟩) NB855_904.out _).trans (hHeld.2.2.1)))), ((cell_far (p := ⟨gb904, _, none⟩) NB855_904.out _).trans (((cell_far (p := ⟨gb904, _, none⟩) NB855_904.out _).trans (hHeld.2.2.2.1)))), ((cell_far (p := ⟨gb904, _, none⟩) (by first | exact Kd.own_blk (Kd.R_ne HO_856001.out BK904.out (by decide)) | (rw [add_block]; exact Kd.own_blk (Kd.R_ne HO_856001.out BK904.out (by decide))) | (show (Addr.add _ _).block ≠ _; rw [add_block]; exact Kd.own_blk (Kd.R_ne HO_856001.out BK904.out (by decide))) | (dsimp only; exact Kd.own_blk (Kd.R_ne HO_856001.out BK904.out (by decide)))) _).trans (((cell_far (p := ⟨gb904, _, none⟩) (by first | exact Kd.own_blk (Kd.R_ne HO_856001.out BK904.out (by decide)) | (rw [add_block]; exact Kd.own_blk (Kd.R_ne HO_856001.out BK904.out (by decide))) | (show (Addr.add _ _).block ≠ _; rw [add_block]; exact Kd.own_blk (Kd.R_ne HO_856001.out BK904.out (by decide))) | (dsimp only; exact Kd.own_blk (Kd.R_ne HO_856001.out BK904.out (by decide)))) _).trans (hHeld.2.2.2.2.1)))), ((cell_far (p := ⟨gb904, _, none⟩) (by first | exact Kd.own_blk (Kd.R_ne HO_856001.out BK904.out (by decide)) | (rw [add_block]; exact Kd.own_blk (Kd.R_ne HO_856001.out BK904.out (by decide))) | (show (Addr.add _ _).block ≠ _; rw [add_block]; exact Kd.own_blk (Kd.R_ne HO_856001.out BK904.out (by decide))) | (dsimp only; exact Kd.own_blk (Kd.R_ne HO_856001.out BK904.out (by decide)))) _).trans (((cell_far (p := ⟨gb904, _, none⟩) (by first | exact Kd.own_blk (Kd.R_ne HO_856001.out BK904.out (by decide)) | (rw [add_block]; exact Kd.own_blk (Kd.R_ne HO_856001.out BK904.out (by decide))) | (show (Addr.add _ _).block ≠ _; rw [add_block]; exact Kd.own_blk (Kd.R_ne HO_856001.out BK904.out (by decide))) | (dsimp only; exact Kd.own_blk (Kd.R_ne HO_856001.out BK904.out (by decide)))) _).trans (hHeld.2.2.2.2.2.1)))), ((cell_far (p := ⟨gb904, _, none⟩) (by first | exact Kd.own_blk (Kd.R_ne HO_856001.out BK904.out (by decide)) | (rw [add_block]; exact Kd.own_blk (Kd.R_ne HO_856001.out BK904.out (by decide))) | (show (Addr.add _ _).block ≠ _; rw [add_block]; exact Kd.own_blk (Kd.R_ne HO_856001.out BK904.out (by decide))) | (dsimp only; exact Kd.own_blk (Kd.R_ne HO_856001.out BK904.out (by decide)))) _).trans (((cell_far (p := ⟨gb904, _, none⟩) (by first | exact Kd.own_blk (Kd.R_ne HO_856001.out BK904.out (by decide)) | (rw [add_block]; exact Kd.own_blk (Kd.R_ne HO_856001.out BK904.out (by decide))) | (show (Addr.add _ _).block ≠ _; rw [add_block]; exact Kd.own_blk (Kd.R_ne HO_856001.out BK904.out (by decide))) | (dsimp only; exact Kd.own_blk (Kd.R_ne HO_856001.out BK904.out (by decide)))) _).trans (hHeld.2.2.2.2.2.2))))⟩ (fun hHeld => ?_)
                                clear hK K
                                refine zA 12 69 HT_ ?_
                                refine done_ (done_of HT_.out (by kernel_rfl)) ?_
                                replace hNB904_855 := NB904_855.out
                                replace hNB855_904 := NB855_904.out
                                replace hNB904_861 := NB904_861.out
                                replace hNB861_904 := NB861_904.out
                                replace hz904 := zc2 BK904
                                replace hNB855_861 := NB855_861.out
                                replace hNB861_855 := NB861_855.out
                                replace hz855 := zc2 BK855
                                as_aux_lemma =>
                                 try go_wp2_with (first | (go_at_call 8; (with_reducible refine (laws_jPuzzle.calls kj380 t899 _ _ t900 t850 _ _ t851 t905 _ ?side1 ?side2 ?side3 ?side4 A390.out).mono ?_); (case side1 => refine (Kd.R_reads' (e := 39) (base := w.heap.size) (ok := fun k_ => (some k_ ≠ (.slice (some ad898) t851.length co241 : Value).ownBlock ∧ some k_ ≠ (.slice Ao250 t857.length co250 : Value).ownBlock)) (n := t900.length) (c := co396) ?_).2.2; exact (by (with_reducible repeat (first | apply Kd.R_alloc | apply Kd.R_drewN | apply Kd.R_drew)); exact (Kd.R_mono (Kd.R_far (p := ⟨gb904, 1, none⟩) (Kd.R_far (p := ⟨gb904, 0, none⟩) (Kd.R_types HO902.out BK904.out (by decide)) (fun _ hk => hk.2) (.int .i64 t899)) (fun _ hk => hk.2) (.slice Ao396 t900.length co396)) (fun _ h_ => h_.1)))); (case side2 => exact (Kd.R_reads' HO902.out).2.1); (case side3 => refine (Kd.R_reads' (e := 39) (base := w.heap.size) (ok := fun k_ => (some k_ ≠ (.slice Ao396 t900.length co396 : Value).ownBlock ∧ some k_ ≠ (.slice Ao250 t857.length co250 : Value).ownBlock)) (n := t851.length) (c := co241) ?_).2.2; exact (by (with_reducible repeat (first | apply Kd.R_alloc | apply Kd.R_drewN | apply Kd.R_drew)); exact (Kd.R_mono (Kd.R_far (p := ⟨gb904, 1, none⟩) (Kd.R_far (p := ⟨gb904, 0, none⟩) (Kd.R_types HO_856001.out BK904.out (by decide)) (fun _ hk => hk.2) (.int .i64 t899)) (fun _ hk => hk.2) (.slice Ao396 t900.length co396)) (fun _ h_ => h_.1)))); (case side4 => exact (Kd.R_reads' HO_856001.out).2.1); rintro e w403 ⟨rfl, hb⟩; have n0_ := Aside0.mk (Kd.R_below (by (with_reducible repeat (first | apply Kd.R_alloc | apply Kd.R_drewN | apply Kd.R_drew)); exact (Kd.R_mono (Kd.R_far (p := ⟨gb904, 1, none⟩) (Kd.R_far (p := ⟨gb904, 0, none⟩) (Kd.R_types HO_856001.out BK904.out (by decide)) (fun _ hk => hk.2) (.int .i64 t899)) (fun _ hk => hk.2) (.slice Ao396 t900.length co396)) (fun _ h_ => h_.1))) hb); have n1_ := Aside0.mk (Kd.R_below (by (with_reducible repeat (first | apply Kd.R_alloc | apply Kd.R_drewN | apply Kd.R_drew)); exact (Kd.R_mono (Kd.R_far (p := ⟨gb904, 1, none⟩) (Kd.R_far (p := ⟨gb904, 0, none⟩) (Kd.R_types HO_862001.out BK904.out (by decide)) (fun _ hk => hk.2) (.int .i64 t899)) (fun _ hk => hk.2) (.slice Ao396 t900.length co396)) (fun _ h_ => h_.1))) hb); have n2_ := Aside0.mk (Kd.R_below (by (with_reducible repeat (first | apply Kd.R_alloc | apply Kd.R_drewN | apply Kd.R_drew)); exact (Kd.R_mono (Kd.R_far (p := ⟨gb904, 1, none⟩) (Kd.R_far (p := ⟨gb904, 0, none⟩) (Kd.R_types HO902.out BK904.out (by decide)) (fun _ hk => hk.2) (.int .i64 t899)) (fun _ hk => hk.2) (.slice Ao396 t900.length co396)) (fun _ h_ => h_.1))) hb); have n5_ := Aside0.mk (blk_below (g := gb904) (o := .cells #[.int .i64 t899, .slice Ao396 t900.length co396] 30 (0, 0)) (zw BK904) hb); replace BK855 := zb BK855 hb; replace BK861 := zb BK861 hb; replace HB := zh HB hb; clear HO_856001; have HO_856001 := n0_; clear n0_; clear HO_862001; have HO_862001 := n1_; clear n1_; clear HO902; have HO902 := n2_; clear n2_; clear BK904; have BK904 := n5_; clear n5_; clear hb))
                                 go_ret
                                 exact ⟨zt, zy HB⟩
                             replace c389 := Bool.eq_false_iff.mpr c389
                             subst c389; rw [if_neg (show ¬ (false = true) by decide)] at H
                             obtain rfl := Option.some.inj H
                             exact absurd HR_.out (by decide)
                           rw [if_neg c387] at H
                           exact absurd H (by simp)
                         rw [if_neg c386] at H
                         exact absurd H (by simp)
                       replace c385 := Bool.eq_false_iff.mpr c385
                       subst c385; rw [if_neg (show ¬ (false = true) by decide)] at H
                       obtain rfl := Option.some.inj H
                       as_aux_lemma =>
                        go_wp2
                        go_ret
                        exact ⟨zt, zy HB⟩

/-- THE ONE PURE STATEMENT of laws_FnLaddersHidden: yours. -/
def laws_FnLaddersHidden.Pure : Prop := ∀ (l0 : List Int) (l1 : List Int), l0.length ≤ maxLen → l0.length * 1 ≤ 140737488351232 → (∀ x ∈ l0, (Lit.int .u8 x).wf = true) → l1.length ≤ maxLen → l1.length * 1 ≤ 140737488351232 → (∀ x ∈ l1, (Lit.int .u8 x).wf = true) → ∃ k, laws_FnLaddersHidden.f k l0 l1 = some true
theorem laws_FnLaddersHidden.walk (P : laws_FnLaddersHidden.Pure) (a0 : Option Addr) (len0 cap0 : Nat) (z0 : List Int) (a1 : Option Addr) (len1 cap1 : Nat) (z1 : List Int) (w : World) (w0 : (a0 = none ∧ len0 = 0 ∧ cap0 = 0 ∧ z0 = []) ∨ ∃ x, a0 = some x ∧ len0 ≤ cap0 ∧ cap0 ≤ maxLen ∧ z0.length = cap0 ∧ (∀ i, i < z0.length → w.cell? (x.add i) = some (.int .u8 (z0.getD i 0))) ∧ ∀ n ∈ z0, (Lit.int .u8 n).wf = true) (y0 : len0 * 1 ≤ 140737488351232) (w1 : (a1 = none ∧ len1 = 0 ∧ cap1 = 0 ∧ z1 = []) ∨ ∃ x, a1 = some x ∧ len1 ≤ cap1 ∧ cap1 ≤ maxLen ∧ z1.length = cap1 ∧ (∀ i, i < z1.length → w.cell? (x.add i) = some (.int .u8 (z1.getD i 0))) ∧ ∀ n ∈ z1, (Lit.int .u8 n).wf = true) (y1 : len1 * 1 ≤ 140737488351232) :
    Calls Try.prog 3 #[.slice a0 len0 cap0, .slice a1 len1 cap1] w fun e w' => e = .returned (.bool true) ∧ Below w.heap.size w w' := by
  obtain ⟨l0, rfl, hr0, hm0, hw0, hc0⟩ := ReadsInt.ofRowC w0
  obtain ⟨l1, rfl, hr1, hm1, hw1, hc1⟩ := ReadsInt.ofRowC w1
  obtain ⟨k, h⟩ := P l0 l1 hm0 y0 hw0 hm1 y1 hw1
  refine (laws_FnLaddersHidden.calls k _ _ l0 _ _ l1 true w (Kd.C_of_reads (d := (0 : Int)) (h1 := fun _ => rfl) hr0) hc0 (Kd.C_of_reads (d := (0 : Int)) (h1 := fun _ => rfl) hr1) hc1 h rfl).mono ?_
  rintro e w' ⟨rfl, hd⟩
  exact ⟨rfl, hd⟩

end Go.Proofs.Ytopoopkobfdjjaa.P
