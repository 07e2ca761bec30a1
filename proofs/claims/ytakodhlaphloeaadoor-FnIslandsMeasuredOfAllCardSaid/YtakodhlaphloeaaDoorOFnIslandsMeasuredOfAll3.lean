/- The law FnIslandsMeasuredOfAll is proved: a call of it returns true and leaves its arguments as they were; and what this needs. Every input that the given rows speak of; nothing else is asked. -/
import Derived.Test.YtakodhlaphloeaaDoorOFnIslandsMeasuredOfAll0
import Derived.Test.YtakodhlaphloeaaDoorOFnIslandsMeasuredOfAll1
import Derived.Test.YtakodhlaphloeaaDoorOFnIslandsMeasuredOfAll2
namespace Go.Proofs.YtakodhlaphloeaaDoor.P
open Go.RowKit Go.Proofs.YtakodhlaphloeaaDoorW.PrintWords Go.Proofs.YtakodhlaphloeaaDoorW.PrintLast Go.Proofs.YtakodhlaphloeaaDoorW.PrintMore
set_option linter.unusedVariables false
theorem zO3_0 {p : Prop} (h : p := by repeat (first | (with_reducible exact HR500_0.out) | (with_reducible refine Kd.C_alloc ?_ _) | (with_reducible refine Kd.C_drewN ?_ _) | (with_reducible refine Kd.C_drew ?_) | exact HR500_0.out)) : p := h
theorem zO3_1 {p : Prop} (h : p := by (try simp only [List.map_toArray, List.map_cons, List.map_nil]); first | done | rfl | (simp only [List.length_drop, List.length_take]; rfl)) : p := h
theorem zO3_2 {p : Prop} (h : p := by (with_reducible repeat (first | apply Kd.S_alloc | apply Kd.S_drewN | apply Kd.S_drew)); exact HO467.out) : p := h
theorem zO3_3 {p : Prop} (h : p := by (with_reducible repeat (first | apply Kd.S_alloc | apply Kd.S_drewN | apply Kd.S_drew)); exact HO471.out) : p := h
theorem zO3_4 {p : Prop} (h : p := by first | (with_reducible assumption) | assumption) : p := h
end Go.Proofs.YtakodhlaphloeaaDoor.P
namespace Go.Proofs.YtakodhlaphloeaaDoor.P
open Go.RowKit Go.Proofs.YtakodhlaphloeaaDoorW.PrintWords Go.Proofs.YtakodhlaphloeaaDoorW.PrintLast Go.Proofs.YtakodhlaphloeaaDoorW.PrintMore
attribute [local go_sem] max2_int min2_int max_two min_two max_three min_three max_four min_four   -- for this text's walks alone
set_option linter.unusedVariables false
set_option linter.unusedSimpArgs false

attribute [local go_sem high] eqA23
/-! ### laws_FnIslandsMeasuredOfAll: function 3 -/
attribute [local go_sem] zset2
attribute [local go_sem high] zcellD zfrozenD
attribute [local simp high] zcellD zfrozenD
mutual
def laws_FnIslandsMeasuredOfAll.j0 : Nat → Int → Int → Int → Int → Int → Int → Int → ByteArray → Int → Int → Bool → Int → Int → Int → Int → Bool → ByteArray → Bool → Int → Int → Int → Int → Int → Int → Int → Int → Option (Bool)
  | 0, _, _, _, _, _, _, _, _, _, _, _, _, _, _, _, _, _, _, _, _, _, _, _, _, _, _ => none
  | k + 1, x1, x2, x3, x4, x5, x6, x8, x9, x21, x22, x23, x27, x28, x33, x34, x35, x39, x235, x386000, x386001, x386002, x386003, x387000, x387001, x387002, x387003 => if x235 = true then (some false) else (if x23 = true then ((laws_yLow.f k x21 x22).bind fun t412 => (if t412 = true then ((laws_yLow.f k x27 x28).bind fun t413 => (if t413 = true then (if (wrap64 ((wrap64 ((wrap64 (x21 - (wrap64 (x386000 * x22)))) * x386002)) * x28)) = (wrap64 ((wrap64 (x386000 * x27)) * x22)) then (laws_FnIslandsMeasuredOfAll.j1 k x1 x2 x3 x4 x5 x6 x8 x9 x21 x22 x27 x28 x33 x34 x35 x39 ((wrap64 ((wrap64 ((wrap64 (x21 - (wrap64 (x386000 * x22)))) * x386003)) * x28)) != (wrap64 ((wrap64 (x386000 * x22)) * (wrap64 (x27 + (wrap64 (x386001 * x28))))))) x386000 x386001 x386002 x386003 x387000 x387001 x387002 x387003) else (laws_FnIslandsMeasuredOfAll.j1 k x1 x2 x3 x4 x5 x6 x8 x9 x21 x22 x27 x28 x33 x34 x35 x39 true x386000 x386001 x386002 x386003 x387000 x387001 x387002 x387003)) else (laws_FnIslandsMeasuredOfAll.j1 k x1 x2 x3 x4 x5 x6 x8 x9 x21 x22 x27 x28 x33 x34 x35 x39 true x386000 x386001 x386002 x386003 x387000 x387001 x387002 x387003))) else (laws_FnIslandsMeasuredOfAll.j1 k x1 x2 x3 x4 x5 x6 x8 x9 x21 x22 x27 x28 x33 x34 x35 x39 true x386000 x386001 x386002 x386003 x387000 x387001 x387002 x387003))) else (laws_FnIslandsMeasuredOfAll.j6 k x1 x2 x3 x4 x5 x6 x8 x9 x21 x22 x33 x34 x35 x386000 x386001 x386002 x386003 x387000 x387001 x387002 x387003))
def laws_FnIslandsMeasuredOfAll.j6 : Nat → Int → Int → Int → Int → Int → Int → Int → ByteArray → Int → Int → Int → Int → Bool → Int → Int → Int → Int → Int → Int → Int → Int → Option (Bool)
  | 0, _, _, _, _, _, _, _, _, _, _, _, _, _, _, _, _, _, _, _, _, _ => none
  | k + 1, x1, x2, x3, x4, x5, x6, x8, x9, x21, x22, x33, x34, x35, x386000, x386001, x386002, x386003, x387000, x387001, x387002, x387003 => if x35 = true then ((impl_IslandHeight.f k x386000 x386001 x386002 (wrap64 (x386003 - 1))).bind fun bt444 => (if bt444.2.2 = true then ((laws_yLow.f k x33 x34).bind fun t447 => (if t447 = true then (if x33 < 1 then (some false) else (if (wrap64 ((wrap64 ((wrap64 (bt444.1 * x22)) - (wrap64 (x21 * bt444.2.1)))) * x34)) = (wrap64 ((wrap64 (x33 * bt444.2.1)) * x22)) then (laws_FnIslandsMeasuredOfAll.j7 k x1 x2 x3 x4 x5 x6 x8 x9 x387000 x387001 x387002 x387003) else (some false))) else (some false))) else (some false))) else (laws_FnIslandsMeasuredOfAll.j7 k x1 x2 x3 x4 x5 x6 x8 x9 x387000 x387001 x387002 x387003)
def laws_FnIslandsMeasuredOfAll.j7 : Nat → Int → Int → Int → Int → Int → Int → Int → ByteArray → Int → Int → Int → Int → Option (Bool)
  | 0, _, _, _, _, _, _, _, _, _, _, _, _ => none
  | k + 1, x1, x2, x3, x4, x5, x6, x8, x9, x387000, x387001, x387002, x387003 => (impl_SecondStep.f k x1 x2 x3 x4).bind fun bt448 => ((spec_SecondStep.f k x1 x2 x3 x4).bind fun bt451 => ((impl_StepsForIsland.f k x1 x2 x3 x4).bind fun bt454 => ((spec_StepsForIsland.f k x1 x2 x3 x4).bind fun bt459 => ((impl_WholeIslands.f k x5 x6).bind fun bt464 => ((spec_WholeIslands.f k x5 x6).bind fun bt468 => ((impl_TimesIsland.f x387000 x387001 x387002 x387003 x8).bind fun bt472 => ((spec_TimesIsland.f k x387000 x387001 x387002 x387003 x8).bind fun bt478 => ((impl_ParseIsland.f x9).bind fun bt484 => ((spec_ParseIsland.f k x9).bind fun bt490 => (if (bt448.2.2 != bt451.2.2) = true then (laws_FnIslandsMeasuredOfAll.j8 k x3 x5 x6 x8 x9 bt448.1 bt448.2.1 bt448.2.2 bt454.1 bt454.2.1 bt454.2.2.1 bt454.2.2.2.1 bt454.2.2.2.2 bt464.1 bt464.2 bt472.2.2.2.2 bt484.2.2.2.2 true x387000 x387001 x387002 x387003 bt472.1 bt472.2.1 bt472.2.2.1 bt472.2.2.2.1 bt484.1 bt484.2.1 bt484.2.2.1 bt484.2.2.2.1) else (if bt448.1 = bt451.1 then (if bt448.2.1 = bt451.2.1 then (if (bt454.2.2.2.2 != bt459.2.2.2.2) = true then (laws_FnIslandsMeasuredOfAll.j8 k x3 x5 x6 x8 x9 bt448.1 bt448.2.1 bt448.2.2 bt454.1 bt454.2.1 bt454.2.2.1 bt454.2.2.2.1 bt454.2.2.2.2 bt464.1 bt464.2 bt472.2.2.2.2 bt484.2.2.2.2 true x387000 x387001 x387002 x387003 bt472.1 bt472.2.1 bt472.2.2.1 bt472.2.2.2.1 bt484.1 bt484.2.1 bt484.2.2.1 bt484.2.2.2.1) else (if bt454.1 = bt459.1 then (if bt454.2.1 = bt459.2.1 then (if bt454.2.2.1 = bt459.2.2.1 then (if bt454.2.2.2.1 = bt459.2.2.2.1 then (if (bt464.2 != bt468.2) = true then (laws_FnIslandsMeasuredOfAll.j8 k x3 x5 x6 x8 x9 bt448.1 bt448.2.1 bt448.2.2 bt454.1 bt454.2.1 bt454.2.2.1 bt454.2.2.2.1 bt454.2.2.2.2 bt464.1 bt464.2 bt472.2.2.2.2 bt484.2.2.2.2 true x387000 x387001 x387002 x387003 bt472.1 bt472.2.1 bt472.2.2.1 bt472.2.2.2.1 bt484.1 bt484.2.1 bt484.2.2.1 bt484.2.2.2.1) else ((laws_yRows.f k bt464.1 bt468.1).bind fun t496 => (if t496 = true then (if (bt472.2.2.2.2 != bt478.2.2.2.2) = true then (laws_FnIslandsMeasuredOfAll.j8 k x3 x5 x6 x8 x9 bt448.1 bt448.2.1 bt448.2.2 bt454.1 bt454.2.1 bt454.2.2.1 bt454.2.2.2.1 bt454.2.2.2.2 bt464.1 bt464.2 bt472.2.2.2.2 bt484.2.2.2.2 true x387000 x387001 x387002 x387003 bt472.1 bt472.2.1 bt472.2.2.1 bt472.2.2.2.1 bt484.1 bt484.2.1 bt484.2.2.1 bt484.2.2.2.1) else (if (!(bt472.1 == bt478.1) || (!(bt472.2.1 == bt478.2.1) || (!(bt472.2.2.1 == bt478.2.2.1) || (!(bt472.2.2.2.1 == bt478.2.2.2.1))))) = true then (laws_FnIslandsMeasuredOfAll.j8 k x3 x5 x6 x8 x9 bt448.1 bt448.2.1 bt448.2.2 bt454.1 bt454.2.1 bt454.2.2.1 bt454.2.2.2.1 bt454.2.2.2.2 bt464.1 bt464.2 bt472.2.2.2.2 bt484.2.2.2.2 true x387000 x387001 x387002 x387003 bt472.1 bt472.2.1 bt472.2.2.1 bt472.2.2.2.1 bt484.1 bt484.2.1 bt484.2.2.1 bt484.2.2.2.1) else (if (bt484.2.2.2.2 != bt490.2.2.2.2) = true then (laws_FnIslandsMeasuredOfAll.j8 k x3 x5 x6 x8 x9 bt448.1 bt448.2.1 bt448.2.2 bt454.1 bt454.2.1 bt454.2.2.1 bt454.2.2.2.1 bt454.2.2.2.2 bt464.1 bt464.2 bt472.2.2.2.2 bt484.2.2.2.2 true x387000 x387001 x387002 x387003 bt472.1 bt472.2.1 bt472.2.2.1 bt472.2.2.2.1 bt484.1 bt484.2.1 bt484.2.2.1 bt484.2.2.2.1) else (laws_FnIslandsMeasuredOfAll.j8 k x3 x5 x6 x8 x9 bt448.1 bt448.2.1 bt448.2.2 bt454.1 bt454.2.1 bt454.2.2.1 bt454.2.2.2.1 bt454.2.2.2.2 bt464.1 bt464.2 bt472.2.2.2.2 bt484.2.2.2.2 (!(bt484.1 == bt490.1) || (!(bt484.2.1 == bt490.2.1) || (!(bt484.2.2.1 == bt490.2.2.1) || (!(bt484.2.2.2.1 == bt490.2.2.2.1))))) x387000 x387001 x387002 x387003 bt472.1 bt472.2.1 bt472.2.2.1 bt472.2.2.2.1 bt484.1 bt484.2.1 bt484.2.2.1 bt484.2.2.2.1)))) else (laws_FnIslandsMeasuredOfAll.j8 k x3 x5 x6 x8 x9 bt448.1 bt448.2.1 bt448.2.2 bt454.1 bt454.2.1 bt454.2.2.1 bt454.2.2.2.1 bt454.2.2.2.2 bt464.1 bt464.2 bt472.2.2.2.2 bt484.2.2.2.2 true x387000 x387001 x387002 x387003 bt472.1 bt472.2.1 bt472.2.2.1 bt472.2.2.2.1 bt484.1 bt484.2.1 bt484.2.2.1 bt484.2.2.2.1)))) else (laws_FnIslandsMeasuredOfAll.j8 k x3 x5 x6 x8 x9 bt448.1 bt448.2.1 bt448.2.2 bt454.1 bt454.2.1 bt454.2.2.1 bt454.2.2.2.1 bt454.2.2.2.2 bt464.1 bt464.2 bt472.2.2.2.2 bt484.2.2.2.2 true x387000 x387001 x387002 x387003 bt472.1 bt472.2.1 bt472.2.2.1 bt472.2.2.2.1 bt484.1 bt484.2.1 bt484.2.2.1 bt484.2.2.2.1)) else (laws_FnIslandsMeasuredOfAll.j8 k x3 x5 x6 x8 x9 bt448.1 bt448.2.1 bt448.2.2 bt454.1 bt454.2.1 bt454.2.2.1 bt454.2.2.2.1 bt454.2.2.2.2 bt464.1 bt464.2 bt472.2.2.2.2 bt484.2.2.2.2 true x387000 x387001 x387002 x387003 bt472.1 bt472.2.1 bt472.2.2.1 bt472.2.2.2.1 bt484.1 bt484.2.1 bt484.2.2.1 bt484.2.2.2.1)) else (laws_FnIslandsMeasuredOfAll.j8 k x3 x5 x6 x8 x9 bt448.1 bt448.2.1 bt448.2.2 bt454.1 bt454.2.1 bt454.2.2.1 bt454.2.2.2.1 bt454.2.2.2.2 bt464.1 bt464.2 bt472.2.2.2.2 bt484.2.2.2.2 true x387000 x387001 x387002 x387003 bt472.1 bt472.2.1 bt472.2.2.1 bt472.2.2.2.1 bt484.1 bt484.2.1 bt484.2.2.1 bt484.2.2.2.1)) else (laws_FnIslandsMeasuredOfAll.j8 k x3 x5 x6 x8 x9 bt448.1 bt448.2.1 bt448.2.2 bt454.1 bt454.2.1 bt454.2.2.1 bt454.2.2.2.1 bt454.2.2.2.2 bt464.1 bt464.2 bt472.2.2.2.2 bt484.2.2.2.2 true x387000 x387001 x387002 x387003 bt472.1 bt472.2.1 bt472.2.2.1 bt472.2.2.2.1 bt484.1 bt484.2.1 bt484.2.2.1 bt484.2.2.2.1))) else (laws_FnIslandsMeasuredOfAll.j8 k x3 x5 x6 x8 x9 bt448.1 bt448.2.1 bt448.2.2 bt454.1 bt454.2.1 bt454.2.2.1 bt454.2.2.2.1 bt454.2.2.2.2 bt464.1 bt464.2 bt472.2.2.2.2 bt484.2.2.2.2 true x387000 x387001 x387002 x387003 bt472.1 bt472.2.1 bt472.2.2.1 bt472.2.2.2.1 bt484.1 bt484.2.1 bt484.2.2.1 bt484.2.2.2.1)) else (laws_FnIslandsMeasuredOfAll.j8 k x3 x5 x6 x8 x9 bt448.1 bt448.2.1 bt448.2.2 bt454.1 bt454.2.1 bt454.2.2.1 bt454.2.2.2.1 bt454.2.2.2.2 bt464.1 bt464.2 bt472.2.2.2.2 bt484.2.2.2.2 true x387000 x387001 x387002 x387003 bt472.1 bt472.2.1 bt472.2.2.1 bt472.2.2.2.1 bt484.1 bt484.2.1 bt484.2.2.1 bt484.2.2.2.1))))))))))))
def laws_FnIslandsMeasuredOfAll.j8 : Nat → Int → Int → Int → Int → ByteArray → Int → Int → Bool → Int → Int → Int → Int → Bool → List (List Int) → Bool → Bool → Bool → Bool → Int → Int → Int → Int → Int → Int → Int → Int → Int → Int → Int → Int → Option (Bool)
  | 0, _, _, _, _, _, _, _, _, _, _, _, _, _, _, _, _, _, _, _, _, _, _, _, _, _, _, _, _, _, _ => none
  | k + 1, x3, x5, x6, x8, x9, x57, x58, x59, x63, x64, x65, x66, x67, x73, x74, x78, x82, x552, x387000, x387001, x387002, x387003, x478000, x478001, x478002, x478003, x490000, x490001, x490002, x490003 => if x552 = true then (some false) else (if x59 = true then ((laws_yLow.f k x57 x58).bind fun t497 => (if t497 = true then (laws_FnIslandsMeasuredOfAll.j9 k x5 x6 x8 x9 x63 x64 x65 x66 x67 x73 x74 x78 x82 (decide (x57 ≤ (wrap64 (x3 * x58)))) x387000 x387001 x387002 x387003 x478000 x478001 x478002 x478003 x490000 x490001 x490002 x490003) else (laws_FnIslandsMeasuredOfAll.j9 k x5 x6 x8 x9 x63 x64 x65 x66 x67 x73 x74 x78 x82 true x387000 x387001 x387002 x387003 x478000 x478001 x478002 x478003 x490000 x490001 x490002 x490003))) else (laws_FnIslandsMeasuredOfAll.j9 k x5 x6 x8 x9 x63 x64 x65 x66 x67 x73 x74 x78 x82 false x387000 x387001 x387002 x387003 x478000 x478001 x478002 x478003 x490000 x490001 x490002 x490003))
def laws_FnIslandsMeasuredOfAll.j9 : Nat → Int → Int → Int → ByteArray → Int → Int → Int → Int → Bool → List (List Int) → Bool → Bool → Bool → Bool → Int → Int → Int → Int → Int → Int → Int → Int → Int → Int → Int → Int → Option (Bool)
  | 0, _, _, _, _, _, _, _, _, _, _, _, _, _, _, _, _, _, _, _, _, _, _, _, _, _, _ => none
  | k + 1, x5, x6, x8, x9, x63, x64, x65, x66, x67, x73, x74, x78, x82, x566, x387000, x387001, x387002, x387003, x478000, x478001, x478002, x478003, x490000, x490001, x490002, x490003 => if x566 = true then (some false) else (if x67 = true then ((laws_yLow.f k x63 x64).bind fun t498 => (if t498 = true then ((laws_yLow.f k x65 x66).bind fun t499 => (if t499 = true then (if x63 < 1 then (laws_FnIslandsMeasuredOfAll.j10 k x5 x6 x8 x9 x73 x74 x78 x82 true x387000 x387001 x387002 x387003 x478000 x478001 x478002 x478003 x490000 x490001 x490002 x490003) else (laws_FnIslandsMeasuredOfAll.j10 k x5 x6 x8 x9 x73 x74 x78 x82 (decide ((wrap64 (x65 * x64)) ≤ (wrap64 (x63 * x66)))) x387000 x387001 x387002 x387003 x478000 x478001 x478002 x478003 x490000 x490001 x490002 x490003)) else (laws_FnIslandsMeasuredOfAll.j10 k x5 x6 x8 x9 x73 x74 x78 x82 true x387000 x387001 x387002 x387003 x478000 x478001 x478002 x478003 x490000 x490001 x490002 x490003))) else (laws_FnIslandsMeasuredOfAll.j10 k x5 x6 x8 x9 x73 x74 x78 x82 true x387000 x387001 x387002 x387003 x478000 x478001 x478002 x478003 x490000 x490001 x490002 x490003))) else (laws_FnIslandsMeasuredOfAll.j10 k x5 x6 x8 x9 x73 x74 x78 x82 false x387000 x387001 x387002 x387003 x478000 x478001 x478002 x478003 x490000 x490001 x490002 x490003))
def laws_FnIslandsMeasuredOfAll.j10 : Nat → Int → Int → Int → ByteArray → List (List Int) → Bool → Bool → Bool → Bool → Int → Int → Int → Int → Int → Int → Int → Int → Int → Int → Int → Int → Option (Bool)
  | 0, _, _, _, _, _, _, _, _, _, _, _, _, _, _, _, _, _, _, _, _, _ => none
  | k + 1, x5, x6, x8, x9, x73, x74, x78, x82, x592, x387000, x387001, x387002, x387003, x478000, x478001, x478002, x478003, x490000, x490001, x490002, x490003 => if x592 = true then (some false) else (if x74 = true then (laws_FnIslandsMeasuredOfAll.l0 k x5 x6 x8 x9 x78 x82 x73 (x73.length : Int) 0 x387000 x387001 x387002 x387003 x478000 x478001 x478002 x478003 x490000 x490001 x490002 x490003) else (laws_FnIslandsMeasuredOfAll.j12 k x8 x9 x78 x82 x387000 x387001 x387002 x387003 x478000 x478001 x478002 x478003 x490000 x490001 x490002 x490003))
def laws_FnIslandsMeasuredOfAll.j12 : Nat → Int → ByteArray → Bool → Bool → Int → Int → Int → Int → Int → Int → Int → Int → Int → Int → Int → Int → Option (Bool)
  | 0, _, _, _, _, _, _, _, _, _, _, _, _, _, _, _, _ => none
  | k + 1, x8, x9, x78, x82, x387000, x387001, x387002, x387003, x478000, x478001, x478002, x478003, x490000, x490001, x490002, x490003 => if x78 = true then ((impl_IslandHeight.f k x387000 x387001 x387002 x387003).bind fun bt507 => ((impl_IslandHeight.f k x478000 x478001 x478002 x478003).bind fun bt510 => (if bt507.2.2 = true then (if bt510.2.2 = true then (laws_FnIslandsMeasuredOfAll.j13 k x9 x82 ((wrap64 (bt510.1 * bt507.2.1)) != (wrap64 ((wrap64 (x8 * bt507.1)) * bt510.2.1))) x490000 x490001 x490002 x490003) else (laws_FnIslandsMeasuredOfAll.j13 k x9 x82 true x490000 x490001 x490002 x490003)) else (laws_FnIslandsMeasuredOfAll.j13 k x9 x82 true x490000 x490001 x490002 x490003)))) else (if x82 = true then ((impl_IslandText.f x490000 x490001 x490002 x490003).bind fun bt515 => (if bt515.2 = true then (some (bt515.1.toList == x9.toList)) else (some false))) else (some true))
def laws_FnIslandsMeasuredOfAll.j13 : Nat → ByteArray → Bool → Bool → Int → Int → Int → Int → Option (Bool)
  | 0, _, _, _, _, _, _, _ => none
  | k + 1, x9, x82, x660, x490000, x490001, x490002, x490003 => if x660 = true then (some false) else (if x82 = true then ((impl_IslandText.f x490000 x490001 x490002 x490003).bind fun bt513 => (if bt513.2 = true then (some (bt513.1.toList == x9.toList)) else (some false))) else (some true))
def laws_FnIslandsMeasuredOfAll.l0 : Nat → Int → Int → Int → ByteArray → Bool → Bool → List (List Int) → Int → Int → Int → Int → Int → Int → Int → Int → Int → Int → Int → Int → Int → Int → Option (Bool)
  | 0, _, _, _, _, _, _, _, _, _, _, _, _, _, _, _, _, _, _, _, _, _ => none
  | k + 1, x5, x6, x8, x9, x78, x82, x594, x595, x596, x387000, x387001, x387002, x387003, x478000, x478001, x478002, x478003, x490000, x490001, x490002, x490003 => if x596 < x595 then (if 0 ≤ x596 then (if x596 < (x594.length : Int) then (if ((rd_L2 x594 x596).length : Int) = 4 then (if 0 < ((rd_L2 x594 x596).length : Int) then (if 1 < ((rd_L2 x594 x596).length : Int) then ((impl_IslandHeight.f k x5 x6 (rd (rd_L2 x594 x596) 0) (rd (rd_L2 x594 x596) 1)).bind fun bt503 => (if bt503.2.2 = true then (if bt503.2.1 = 1 then (if 2 < ((rd_L2 x594 x596).length : Int) then (if bt503.1 = (rd (rd_L2 x594 x596) 2) then (laws_FnIslandsMeasuredOfAll.l0 k x5 x6 x8 x9 x78 x82 x594 x595 (wrap64 (x596 + 1)) x387000 x387001 x387002 x387003 x478000 x478001 x478002 x478003 x490000 x490001 x490002 x490003) else (some false)) else (none)) else (some false)) else (some false))) else (none)) else (none)) else (some false)) else (none)) else (none)) else (laws_FnIslandsMeasuredOfAll.j12 k x8 x9 x78 x82 x387000 x387001 x387002 x387003 x478000 x478001 x478002 x478003 x490000 x490001 x490002 x490003)
def laws_FnIslandsMeasuredOfAll.j1 : Nat → Int → Int → Int → Int → Int → Int → Int → ByteArray → Int → Int → Int → Int → Int → Int → Bool → ByteArray → Bool → Int → Int → Int → Int → Int → Int → Int → Int → Option (Bool)
  | 0, _, _, _, _, _, _, _, _, _, _, _, _, _, _, _, _, _, _, _, _, _, _, _, _, _ => none
  | k + 1, x1, x2, x3, x4, x5, x6, x8, x9, x21, x22, x27, x28, x33, x34, x35, x39, x291, x386000, x386001, x386002, x386003, x387000, x387001, x387002, x387003 => if x291 = true then (some false) else (if x22 = 1 then (laws_FnIslandsMeasuredOfAll.j2 k x1 x2 x3 x4 x5 x6 x8 x9 x21 x22 x27 x28 x33 x34 x35 x39 (decide (x21 ≤ 2000)) x386000 x386001 x386002 x386003 x387000 x387001 x387002 x387003) else (laws_FnIslandsMeasuredOfAll.j2 k x1 x2 x3 x4 x5 x6 x8 x9 x21 x22 x27 x28 x33 x34 x35 x39 false x386000 x386001 x386002 x386003 x387000 x387001 x387002 x387003))
def laws_FnIslandsMeasuredOfAll.j2 : Nat → Int → Int → Int → Int → Int → Int → Int → ByteArray → Int → Int → Int → Int → Int → Int → Bool → ByteArray → Bool → Int → Int → Int → Int → Int → Int → Int → Int → Option (Bool)
  | 0, _, _, _, _, _, _, _, _, _, _, _, _, _, _, _, _, _, _, _, _, _, _, _, _, _ => none
  | k + 1, x1, x2, x3, x4, x5, x6, x8, x9, x21, x22, x27, x28, x33, x34, x35, x39, x297, x386000, x386001, x386002, x386003, x387000, x387001, x387002, x387003 => if x297 = true then ((impl_SecondStep.f k x386000 x386001 x386002 x21).bind fun bt414 => (if bt414.2.2 = true then ((laws_yIs.f k bt414.1 bt414.2.1 x386003 1).bind fun t417 => (laws_FnIslandsMeasuredOfAll.j3 k x1 x2 x3 x4 x5 x6 x8 x9 x21 x22 x27 x28 x33 x34 x35 x39 (!t417) x386000 x386001 x386002 x386003 x387000 x387001 x387002 x387003)) else (laws_FnIslandsMeasuredOfAll.j3 k x1 x2 x3 x4 x5 x6 x8 x9 x21 x22 x27 x28 x33 x34 x35 x39 true x386000 x386001 x386002 x386003 x387000 x387001 x387002 x387003))) else ((impl_ParseIsland.f x39).bind fun bt437 => (if bt437.2.2.2.2 = true then (if (!(bt437.1 == x386000) || (!(bt437.2.1 == x386001) || (!(bt437.2.2.1 == x386002) || (!(bt437.2.2.2.1 == x386003))))) = true then (some false) else (laws_FnIslandsMeasuredOfAll.j6 k x1 x2 x3 x4 x5 x6 x8 x9 x21 x22 x33 x34 x35 x386000 x386001 x386002 x386003 x387000 x387001 x387002 x387003)) else (some false)))
def laws_FnIslandsMeasuredOfAll.j3 : Nat → Int → Int → Int → Int → Int → Int → Int → ByteArray → Int → Int → Int → Int → Int → Int → Bool → ByteArray → Bool → Int → Int → Int → Int → Int → Int → Int → Int → Option (Bool)
  | 0, _, _, _, _, _, _, _, _, _, _, _, _, _, _, _, _, _, _, _, _, _, _, _, _, _ => none
  | k + 1, x1, x2, x3, x4, x5, x6, x8, x9, x21, x22, x27, x28, x33, x34, x35, x39, x319, x386000, x386001, x386002, x386003, x387000, x387001, x387002, x387003 => if x319 = true then (some false) else (if x28 = 1 then (laws_FnIslandsMeasuredOfAll.j4 k x1 x2 x3 x4 x5 x6 x8 x9 x21 x22 x27 x33 x34 x35 x39 (decide (x27 ≤ 2000)) x386000 x386001 x386002 x386003 x387000 x387001 x387002 x387003) else (laws_FnIslandsMeasuredOfAll.j4 k x1 x2 x3 x4 x5 x6 x8 x9 x21 x22 x27 x33 x34 x35 x39 false x386000 x386001 x386002 x386003 x387000 x387001 x387002 x387003))
def laws_FnIslandsMeasuredOfAll.j4 : Nat → Int → Int → Int → Int → Int → Int → Int → ByteArray → Int → Int → Int → Int → Int → Bool → ByteArray → Bool → Int → Int → Int → Int → Int → Int → Int → Int → Option (Bool)
  | 0, _, _, _, _, _, _, _, _, _, _, _, _, _, _, _, _, _, _, _, _, _, _, _, _ => none
  | k + 1, x1, x2, x3, x4, x5, x6, x8, x9, x21, x22, x27, x33, x34, x35, x39, x325, x386000, x386001, x386002, x386003, x387000, x387001, x387002, x387003 => if x325 = true then ((impl_StepsForIsland.f k x386000 x386001 x21 x27).bind fun bt418 => (if bt418.2.2.2.2 = true then ((laws_yIs.f k bt418.1 bt418.2.1 x386002 1).bind fun t423 => (if t423 = true then ((laws_yIs.f k bt418.2.2.1 bt418.2.2.2.1 x386003 1).bind fun t424 => (laws_FnIslandsMeasuredOfAll.j5 k x1 x2 x3 x4 x5 x6 x8 x9 x21 x22 x33 x34 x35 x39 (!t424) x386000 x386001 x386002 x386003 x387000 x387001 x387002 x387003)) else (laws_FnIslandsMeasuredOfAll.j5 k x1 x2 x3 x4 x5 x6 x8 x9 x21 x22 x33 x34 x35 x39 true x386000 x386001 x386002 x386003 x387000 x387001 x387002 x387003))) else (laws_FnIslandsMeasuredOfAll.j5 k x1 x2 x3 x4 x5 x6 x8 x9 x21 x22 x33 x34 x35 x39 true x386000 x386001 x386002 x386003 x387000 x387001 x387002 x387003))) else ((impl_ParseIsland.f x39).bind fun bt431 => (if bt431.2.2.2.2 = true then (if (!(bt431.1 == x386000) || (!(bt431.2.1 == x386001) || (!(bt431.2.2.1 == x386002) || (!(bt431.2.2.2.1 == x386003))))) = true then (some false) else (laws_FnIslandsMeasuredOfAll.j6 k x1 x2 x3 x4 x5 x6 x8 x9 x21 x22 x33 x34 x35 x386000 x386001 x386002 x386003 x387000 x387001 x387002 x387003)) else (some false)))
def laws_FnIslandsMeasuredOfAll.j5 : Nat → Int → Int → Int → Int → Int → Int → Int → ByteArray → Int → Int → Int → Int → Bool → ByteArray → Bool → Int → Int → Int → Int → Int → Int → Int → Int → Option (Bool)
  | 0, _, _, _, _, _, _, _, _, _, _, _, _, _, _, _, _, _, _, _, _, _, _, _ => none
  | k + 1, x1, x2, x3, x4, x5, x6, x8, x9, x21, x22, x33, x34, x35, x39, x356, x386000, x386001, x386002, x386003, x387000, x387001, x387002, x387003 => if x356 = true then (some false) else ((impl_ParseIsland.f x39).bind fun bt425 => (if bt425.2.2.2.2 = true then (if (!(bt425.1 == x386000) || (!(bt425.2.1 == x386001) || (!(bt425.2.2.1 == x386002) || (!(bt425.2.2.2.1 == x386003))))) = true then (some false) else (laws_FnIslandsMeasuredOfAll.j6 k x1 x2 x3 x4 x5 x6 x8 x9 x21 x22 x33 x34 x35 x386000 x386001 x386002 x386003 x387000 x387001 x387002 x387003)) else (some false)))
end
def laws_FnIslandsMeasuredOfAll.f (k : Nat) (a0_0 : Int) (a0_1 : Int) (a0_2 : Int) (a0_3 : Int) (a1 : Int) (a2 : Int) (a3 : Int) (a4 : Int) (a5 : Int) (a6 : Int) (a7_0 : Int) (a7_1 : Int) (a7_2 : Int) (a7_3 : Int) (a8 : Int) (a9 : ByteArray) : Option (Bool) := if (a9.size : Int) > 1048576 then (some true) else ((impl_IslandHeight.f k a0_0 a0_1 a0_2 a0_3).bind fun bt387 => ((spec_IslandHeight.f k a0_0 a0_1 a0_2 a0_3).bind fun bt390 => ((impl_IslandAway.f k a0_0 a0_1 a0_2 a0_3).bind fun bt393 => ((spec_IslandAway.f k a0_0 a0_1 a0_2 a0_3).bind fun bt396 => ((impl_HigherByStep.f k a0_0 a0_1 a0_2 a0_3).bind fun bt399 => ((spec_HigherByStep.f k a0_0 a0_1 a0_2 a0_3).bind fun bt402 => ((impl_IslandText.f a0_0 a0_1 a0_2 a0_3).bind fun bt405 => ((spec_IslandText.f k a0_0 a0_1 a0_2 a0_3).bind fun bt407 => (if (bt387.2.2 != bt390.2.2) = true then (laws_FnIslandsMeasuredOfAll.j0 k a1 a2 a3 a4 a5 a6 a8 a9 bt387.1 bt387.2.1 bt387.2.2 bt393.1 bt393.2.1 bt399.1 bt399.2.1 bt399.2.2 bt405.1 true a0_0 a0_1 a0_2 a0_3 a7_0 a7_1 a7_2 a7_3) else (if bt387.1 = bt390.1 then (if bt387.2.1 = bt390.2.1 then (if (bt393.2.2 != bt396.2.2) = true then (laws_FnIslandsMeasuredOfAll.j0 k a1 a2 a3 a4 a5 a6 a8 a9 bt387.1 bt387.2.1 bt387.2.2 bt393.1 bt393.2.1 bt399.1 bt399.2.1 bt399.2.2 bt405.1 true a0_0 a0_1 a0_2 a0_3 a7_0 a7_1 a7_2 a7_3) else (if bt393.1 = bt396.1 then (if bt393.2.1 = bt396.2.1 then (if (bt399.2.2 != bt402.2.2) = true then (laws_FnIslandsMeasuredOfAll.j0 k a1 a2 a3 a4 a5 a6 a8 a9 bt387.1 bt387.2.1 bt387.2.2 bt393.1 bt393.2.1 bt399.1 bt399.2.1 bt399.2.2 bt405.1 true a0_0 a0_1 a0_2 a0_3 a7_0 a7_1 a7_2 a7_3) else (if bt399.1 = bt402.1 then (if bt399.2.1 = bt402.2.1 then (if (bt405.2 != bt407.2) = true then (laws_FnIslandsMeasuredOfAll.j0 k a1 a2 a3 a4 a5 a6 a8 a9 bt387.1 bt387.2.1 bt387.2.2 bt393.1 bt393.2.1 bt399.1 bt399.2.1 bt399.2.2 bt405.1 true a0_0 a0_1 a0_2 a0_3 a7_0 a7_1 a7_2 a7_3) else (if bt405.1.toList = bt407.1.toList then ((impl_IsIsland.f a0_0 a0_1 a0_2 a0_3).bind fun t409 => (if (bt387.2.2 != t409) = true then (laws_FnIslandsMeasuredOfAll.j0 k a1 a2 a3 a4 a5 a6 a8 a9 bt387.1 bt387.2.1 bt387.2.2 bt393.1 bt393.2.1 bt399.1 bt399.2.1 bt399.2.2 bt405.1 true a0_0 a0_1 a0_2 a0_3 a7_0 a7_1 a7_2 a7_3) else ((impl_IsIsland.f a0_0 a0_1 a0_2 a0_3).bind fun t410 => ((spec_IsIsland.f k a0_0 a0_1 a0_2 a0_3).bind fun t411 => (if (t410 != t411) = true then (laws_FnIslandsMeasuredOfAll.j0 k a1 a2 a3 a4 a5 a6 a8 a9 bt387.1 bt387.2.1 bt387.2.2 bt393.1 bt393.2.1 bt399.1 bt399.2.1 bt399.2.2 bt405.1 true a0_0 a0_1 a0_2 a0_3 a7_0 a7_1 a7_2 a7_3) else (if (bt393.2.2 != bt387.2.2) = true then (laws_FnIslandsMeasuredOfAll.j0 k a1 a2 a3 a4 a5 a6 a8 a9 bt387.1 bt387.2.1 bt387.2.2 bt393.1 bt393.2.1 bt399.1 bt399.2.1 bt399.2.2 bt405.1 true a0_0 a0_1 a0_2 a0_3 a7_0 a7_1 a7_2 a7_3) else (if (bt405.2 != bt387.2.2) = true then (laws_FnIslandsMeasuredOfAll.j0 k a1 a2 a3 a4 a5 a6 a8 a9 bt387.1 bt387.2.1 bt387.2.2 bt393.1 bt393.2.1 bt399.1 bt399.2.1 bt399.2.2 bt405.1 true a0_0 a0_1 a0_2 a0_3 a7_0 a7_1 a7_2 a7_3) else (if bt387.2.2 = true then (laws_FnIslandsMeasuredOfAll.j0 k a1 a2 a3 a4 a5 a6 a8 a9 bt387.1 bt387.2.1 bt387.2.2 bt393.1 bt393.2.1 bt399.1 bt399.2.1 bt399.2.2 bt405.1 (bt399.2.2 != (decide ((wrap64 (a0_3 - a0_2)) > 1))) a0_0 a0_1 a0_2 a0_3 a7_0 a7_1 a7_2 a7_3) else (laws_FnIslandsMeasuredOfAll.j0 k a1 a2 a3 a4 a5 a6 a8 a9 bt387.1 bt387.2.1 bt387.2.2 bt393.1 bt393.2.1 bt399.1 bt399.2.1 bt399.2.2 bt405.1 (bt399.2.2 != false) a0_0 a0_1 a0_2 a0_3 a7_0 a7_1 a7_2 a7_3))))))))) else (laws_FnIslandsMeasuredOfAll.j0 k a1 a2 a3 a4 a5 a6 a8 a9 bt387.1 bt387.2.1 bt387.2.2 bt393.1 bt393.2.1 bt399.1 bt399.2.1 bt399.2.2 bt405.1 true a0_0 a0_1 a0_2 a0_3 a7_0 a7_1 a7_2 a7_3))) else (laws_FnIslandsMeasuredOfAll.j0 k a1 a2 a3 a4 a5 a6 a8 a9 bt387.1 bt387.2.1 bt387.2.2 bt393.1 bt393.2.1 bt399.1 bt399.2.1 bt399.2.2 bt405.1 true a0_0 a0_1 a0_2 a0_3 a7_0 a7_1 a7_2 a7_3)) else (laws_FnIslandsMeasuredOfAll.j0 k a1 a2 a3 a4 a5 a6 a8 a9 bt387.1 bt387.2.1 bt387.2.2 bt393.1 bt393.2.1 bt399.1 bt399.2.1 bt399.2.2 bt405.1 true a0_0 a0_1 a0_2 a0_3 a7_0 a7_1 a7_2 a7_3))) else (laws_FnIslandsMeasuredOfAll.j0 k a1 a2 a3 a4 a5 a6 a8 a9 bt387.1 bt387.2.1 bt387.2.2 bt393.1 bt393.2.1 bt399.1 bt399.2.1 bt399.2.2 bt405.1 true a0_0 a0_1 a0_2 a0_3 a7_0 a7_1 a7_2 a7_3)) else (laws_FnIslandsMeasuredOfAll.j0 k a1 a2 a3 a4 a5 a6 a8 a9 bt387.1 bt387.2.1 bt387.2.2 bt393.1 bt393.2.1 bt399.1 bt399.2.1 bt399.2.2 bt405.1 true a0_0 a0_1 a0_2 a0_3 a7_0 a7_1 a7_2 a7_3))) else (laws_FnIslandsMeasuredOfAll.j0 k a1 a2 a3 a4 a5 a6 a8 a9 bt387.1 bt387.2.1 bt387.2.2 bt393.1 bt393.2.1 bt399.1 bt399.2.1 bt399.2.2 bt405.1 true a0_0 a0_1 a0_2 a0_3 a7_0 a7_1 a7_2 a7_3)) else (laws_FnIslandsMeasuredOfAll.j0 k a1 a2 a3 a4 a5 a6 a8 a9 bt387.1 bt387.2.1 bt387.2.2 bt393.1 bt393.2.1 bt399.1 bt399.2.1 bt399.2.2 bt405.1 true a0_0 a0_1 a0_2 a0_3 a7_0 a7_1 a7_2 a7_3)))))))))))
theorem laws_FnIslandsMeasuredOfAll.j0_true : ∀ k x0 x1 x2 x3 x4 x5 x6 x7 x8 x9 x10 x11 x12 x13 x14 x15 x16 x18 x19 x20 x21 x22 x23 x24 x25 r, laws_FnIslandsMeasuredOfAll.j0 k x0 x1 x2 x3 x4 x5 x6 x7 x8 x9 x10 x11 x12 x13 x14 x15 x16 true x18 x19 x20 x21 x22 x23 x24 x25 = some r → r = false := by
  intro k x0 x1 x2 x3 x4 x5 x6 x7 x8 x9 x10 x11 x12 x13 x14 x15 x16 x18 x19 x20 x21 x22 x23 x24 x25 r h
  cases k with
  | zero => simp [laws_FnIslandsMeasuredOfAll.j0] at h
  | succ k => simp only [laws_FnIslandsMeasuredOfAll.j0, if_true] at h; exact (Option.some.inj h).symm
theorem laws_FnIslandsMeasuredOfAll.j8_true : ∀ k x0 x1 x2 x3 x4 x5 x6 x7 x8 x9 x10 x11 x12 x13 x14 x15 x16 x18 x19 x20 x21 x22 x23 x24 x25 x26 x27 x28 x29 r, laws_FnIslandsMeasuredOfAll.j8 k x0 x1 x2 x3 x4 x5 x6 x7 x8 x9 x10 x11 x12 x13 x14 x15 x16 true x18 x19 x20 x21 x22 x23 x24 x25 x26 x27 x28 x29 = some r → r = false := by
  intro k x0 x1 x2 x3 x4 x5 x6 x7 x8 x9 x10 x11 x12 x13 x14 x15 x16 x18 x19 x20 x21 x22 x23 x24 x25 x26 x27 x28 x29 r h
  cases k with
  | zero => simp [laws_FnIslandsMeasuredOfAll.j8] at h
  | succ k => simp only [laws_FnIslandsMeasuredOfAll.j8, if_true] at h; exact (Option.some.inj h).symm
theorem laws_FnIslandsMeasuredOfAll.j9_true : ∀ k x0 x1 x2 x3 x4 x5 x6 x7 x8 x9 x10 x11 x12 x14 x15 x16 x17 x18 x19 x20 x21 x22 x23 x24 x25 r, laws_FnIslandsMeasuredOfAll.j9 k x0 x1 x2 x3 x4 x5 x6 x7 x8 x9 x10 x11 x12 true x14 x15 x16 x17 x18 x19 x20 x21 x22 x23 x24 x25 = some r → r = false := by
  intro k x0 x1 x2 x3 x4 x5 x6 x7 x8 x9 x10 x11 x12 x14 x15 x16 x17 x18 x19 x20 x21 x22 x23 x24 x25 r h
  cases k with
  | zero => simp [laws_FnIslandsMeasuredOfAll.j9] at h
  | succ k => simp only [laws_FnIslandsMeasuredOfAll.j9, if_true] at h; exact (Option.some.inj h).symm
theorem laws_FnIslandsMeasuredOfAll.j10_true : ∀ k x0 x1 x2 x3 x4 x5 x6 x7 x9 x10 x11 x12 x13 x14 x15 x16 x17 x18 x19 x20 r, laws_FnIslandsMeasuredOfAll.j10 k x0 x1 x2 x3 x4 x5 x6 x7 true x9 x10 x11 x12 x13 x14 x15 x16 x17 x18 x19 x20 = some r → r = false := by
  intro k x0 x1 x2 x3 x4 x5 x6 x7 x9 x10 x11 x12 x13 x14 x15 x16 x17 x18 x19 x20 r h
  cases k with
  | zero => simp [laws_FnIslandsMeasuredOfAll.j10] at h
  | succ k => simp only [laws_FnIslandsMeasuredOfAll.j10, if_true] at h; exact (Option.some.inj h).symm
theorem laws_FnIslandsMeasuredOfAll.j13_true : ∀ k x0 x1 x3 x4 x5 x6 r, laws_FnIslandsMeasuredOfAll.j13 k x0 x1 true x3 x4 x5 x6 = some r → r = false := by
  intro k x0 x1 x3 x4 x5 x6 r h
  cases k with
  | zero => simp [laws_FnIslandsMeasuredOfAll.j13] at h
  | succ k => simp only [laws_FnIslandsMeasuredOfAll.j13, if_true] at h; exact (Option.some.inj h).symm
theorem laws_FnIslandsMeasuredOfAll.j1_true : ∀ k x0 x1 x2 x3 x4 x5 x6 x7 x8 x9 x10 x11 x12 x13 x14 x15 x17 x18 x19 x20 x21 x22 x23 x24 r, laws_FnIslandsMeasuredOfAll.j1 k x0 x1 x2 x3 x4 x5 x6 x7 x8 x9 x10 x11 x12 x13 x14 x15 true x17 x18 x19 x20 x21 x22 x23 x24 = some r → r = false := by
  intro k x0 x1 x2 x3 x4 x5 x6 x7 x8 x9 x10 x11 x12 x13 x14 x15 x17 x18 x19 x20 x21 x22 x23 x24 r h
  cases k with
  | zero => simp [laws_FnIslandsMeasuredOfAll.j1] at h
  | succ k => simp only [laws_FnIslandsMeasuredOfAll.j1, if_true] at h; exact (Option.some.inj h).symm
theorem laws_FnIslandsMeasuredOfAll.j3_true : ∀ k x0 x1 x2 x3 x4 x5 x6 x7 x8 x9 x10 x11 x12 x13 x14 x15 x17 x18 x19 x20 x21 x22 x23 x24 r, laws_FnIslandsMeasuredOfAll.j3 k x0 x1 x2 x3 x4 x5 x6 x7 x8 x9 x10 x11 x12 x13 x14 x15 true x17 x18 x19 x20 x21 x22 x23 x24 = some r → r = false := by
  intro k x0 x1 x2 x3 x4 x5 x6 x7 x8 x9 x10 x11 x12 x13 x14 x15 x17 x18 x19 x20 x21 x22 x23 x24 r h
  cases k with
  | zero => simp [laws_FnIslandsMeasuredOfAll.j3] at h
  | succ k => simp only [laws_FnIslandsMeasuredOfAll.j3, if_true] at h; exact (Option.some.inj h).symm
theorem laws_FnIslandsMeasuredOfAll.j5_true : ∀ k x0 x1 x2 x3 x4 x5 x6 x7 x8 x9 x10 x11 x12 x13 x15 x16 x17 x18 x19 x20 x21 x22 r, laws_FnIslandsMeasuredOfAll.j5 k x0 x1 x2 x3 x4 x5 x6 x7 x8 x9 x10 x11 x12 x13 true x15 x16 x17 x18 x19 x20 x21 x22 = some r → r = false := by
  intro k x0 x1 x2 x3 x4 x5 x6 x7 x8 x9 x10 x11 x12 x13 x15 x16 x17 x18 x19 x20 x21 x22 r h
  cases k with
  | zero => simp [laws_FnIslandsMeasuredOfAll.j5] at h
  | succ k => simp only [laws_FnIslandsMeasuredOfAll.j5, if_true] at h; exact (Option.some.inj h).symm
def laws_FnIslandsMeasuredOfAll.T11 : Bool × List (List Nat × List Nat) := (true, [([], []), ([], []), ([0, 1], [0, 1]), ([2], [2]), ([3], [3]), ([3], [3]), ([4, 5, 3], [3, 4, 5]), ([3, 6], [3, 6]), ([7, 3], [7]), ([8], [8]), ([8], [8]), ([9, 10, 8], [8, 9, 10]), ([8, 11], [8, 11]), ([12, 8], [12]), ([13], [13]), ([13], [13]), ([14, 15, 13], [13, 14, 15]), ([13, 16], [13, 16]), ([17, 13], [17]), ([18], [18]), ([18], [18]), ([19, 20, 18], [18, 19, 20]), ([18, 21], [18, 21]), ([22, 18], [22]), ([23], [23]), ([23], [23]), ([24, 25, 23], [23, 24, 25]), ([23, 26], [23, 26]), ([27, 23], [27]), ([28], [28]), ([28], [28]), ([29, 30, 28], [28, 29, 30]), ([28, 31], [28, 31]), ([32, 28], [32]), ([33], [33]), ([33], [33]), ([34, 35, 33], [33, 34, 35]), ([33, 36], [33, 36]), ([37, 33], [37]), ([38], [38]), ([38], [38]), ([39, 40, 38], [38, 39, 40]), ([38, 41], [38, 41]), ([42, 38], [42]), ([43], [43]), ([43], [43]), ([44, 45, 43], [43, 44, 45]), ([43, 46], [43, 46]), ([47, 43], [47]), ([48], [48]), ([48], [48]), ([49, 50, 48], [48, 49, 50]), ([48, 51], [48, 51]), ([52, 48], [52]), ([53], [53]), ([53], [53]), ([55, 53, 53], [53, 55]), ([54, 56, 53], [53, 54, 56]), ([53, 57], [53, 57]), ([58, 56], [58]), ([59], [59]), ([60, 59, 59], [59, 60]), ([59], [59]), ([62, 61, 59], [59, 62]), ([61, 63, 59], [59, 61, 63]), ([59, 64], [59, 64]), ([65, 63], [65]), ([66], [66]), ([66], [66]), ([67, 68, 66], [66, 67, 68]), ([66, 69], [66, 69]), ([70, 66], [70]), ([71], [71]), ([71], [71]), ([72, 73, 71], [71, 72, 73]), ([71, 74], [71, 74]), ([75, 71], [75]), ([76], [76]), ([76], [76]), ([78, 76, 76], [76, 78]), ([79], [79]), ([80, 79], [79, 80]), ([79], [79]), ([82, 79], [79, 82]), ([81, 83, 79], [79, 81, 83]), ([84, 79], [79, 84]), ([79, 85, 76], [76, 79, 85]), ([77, 86, 76], [76, 77, 86]), ([76, 87], [76, 87])])
def laws_FnIslandsMeasuredOfAll.B11 : List Nat := [0, 0, 3, 7, 15, 15, 63, 127, 255, 511, 511, 2047, 4095, 8191, 16383, 16383, 65535, 131071, 262143, 524287, 524287, 2097151, 4194303, 8388607, 16777215, 16777215, 67108863, 134217727, 268435455, 536870911, 536870911, 2147483647, 4294967295, 8589934591, 17179869183, 17179869183, 68719476735, 137438953471, 274877906943, 549755813887, 549755813887, 2199023255551, 4398046511103, 8796093022207, 17592186044415, 17592186044415, 70368744177663, 140737488355327, 281474976710655, 562949953421311, 562949953421311, 2251799813685247, 4503599627370495, 9007199254740991, 18014398509481983, 18014398509481983, 54043195528445951, 144115188075855871, 288230376151711743, 576460752303423487, 1152921504606846975, 2305843009213693951, 1152921504606846975, 9223372036854775807, 18446744073709551615, 36893488147419103231, 73786976294838206463, 147573952589676412927, 147573952589676412927, 590295810358705651711, 1180591620717411303423, 2361183241434822606847, 4722366482869645213695, 4722366482869645213695, 18889465931478580854783, 37778931862957161709567, 75557863725914323419135, 151115727451828646838271, 151115727451828646838271, 453347182355485940514815, 1057810092162800527867903, 2266735911777429702574079, 1057810092162800527867903, 5893513370621317226692607, 19191697386382238148460543, 38534510500216304943759359, 77220136727884438534356991, 154742504910672534362390527, 309485009821345068724781055]
theorem laws_FnIslandsMeasuredOfAll.tab11 : rtab .any (opsOf Tryd.f3 11) = laws_FnIslandsMeasuredOfAll.T11 := by kernel_rfl
theorem laws_FnIslandsMeasuredOfAll.bits11 : waitsOk laws_FnIslandsMeasuredOfAll.T11.2 laws_FnIslandsMeasuredOfAll.B11 = true := by kernel_rfl
def laws_FnIslandsMeasuredOfAll.T55 : Bool × List (List Nat × List Nat) := (true, [([], []), ([], []), ([], []), ([2], [2]), ([3], [3]), ([], []), ([5], [5]), ([6], [6]), ([0, 1, 4, 7], [0, 1, 4, 7]), ([8], [8]), ([9], [9]), ([10], [10]), ([10], [10]), ([10], [10]), ([11, 9, 0, 1, 2, 3, 4, 5, 6, 7, 8, 9, 10, 11], [11]), ([12, 14, 0, 1, 2, 3, 4, 5, 6, 7, 8, 9, 10, 11, 12, 14], [12]), ([13, 15, 0, 1, 2, 3, 4, 5, 6, 7, 8, 9, 10, 11, 12, 13, 14, 15], [13])])
def laws_FnIslandsMeasuredOfAll.B55 : List Nat := [0, 0, 0, 4, 12, 0, 32, 96, 255, 511, 1023, 2047, 2047, 2047, 4095, 24575, 65535]
theorem laws_FnIslandsMeasuredOfAll.tab55 : rtab .any (opsOf Tryd.f3 55) = laws_FnIslandsMeasuredOfAll.T55 := by kernel_rfl
theorem laws_FnIslandsMeasuredOfAll.bits55 : waitsOk laws_FnIslandsMeasuredOfAll.T55.2 laws_FnIslandsMeasuredOfAll.B55 = true := by kernel_rfl
set_option maxHeartbeats 60000000 in
set_option maxRecDepth 100000 in
theorem laws_FnIslandsMeasuredOfAll.calls (k : Nat) (a0_0 : Int) (a0_1 : Int) (a0_2 : Int) (a0_3 : Int) (a1 : Int) (a2 : Int) (a3 : Int) (a4 : Int) (a5 : Int) (a6 : Int) (a7_0 : Int) (a7_1 : Int) (a7_2 : Int) (a7_3 : Int) (a8 : Int) (a9 : ByteArray) (r : Bool) (w : World) (hL_ : LaidQ w) (h : laws_FnIslandsMeasuredOfAll.f k a0_0 a0_1 a0_2 a0_3 a1 a2 a3 a4 a5 a6 a7_0 a7_1 a7_2 a7_3 a8 a9 = some r) (hr_ : r = true) :
    Calls Tryd.prog 3 #[.agg #[.int .i64 a0_0, .int .i64 a0_1, .int .i64 a0_2, .int .i64 a0_3], .int .i64 a1, .int .i64 a2, .int .i64 a3, .int .i64 a4, .int .i64 a5, .int .i64 a6, .agg #[.int .i64 a7_0, .int .i64 a7_1, .int .i64 a7_2, .int .i64 a7_3], .int .i64 a8, .string a9] w fun e w' => e = .returned (.bool r) ∧ Below w.heap.size w w' := by
  have HR_ := Aside0.mk hr_; clear hr_; have HL_ := Aside0.mk hL_; clear hL_; have hu23 := Tryd.underlying23
  have HB := Aside0.mk (Below.refl w.heap.size w)
  have H : (if (a9.size : Int) > 1048576 then (some true) else ((impl_IslandHeight.f k a0_0 a0_1 a0_2 a0_3).bind fun bt387 => ((spec_IslandHeight.f k a0_0 a0_1 a0_2 a0_3).bind fun bt390 => ((impl_IslandAway.f k a0_0 a0_1 a0_2 a0_3).bind fun bt393 => ((spec_IslandAway.f k a0_0 a0_1 a0_2 a0_3).bind fun bt396 => ((impl_HigherByStep.f k a0_0 a0_1 a0_2 a0_3).bind fun bt399 => ((spec_HigherByStep.f k a0_0 a0_1 a0_2 a0_3).bind fun bt402 => ((impl_IslandText.f a0_0 a0_1 a0_2 a0_3).bind fun bt405 => ((spec_IslandText.f k a0_0 a0_1 a0_2 a0_3).bind fun bt407 => (if (bt387.2.2 != bt390.2.2) = true then (laws_FnIslandsMeasuredOfAll.j0 k a1 a2 a3 a4 a5 a6 a8 a9 bt387.1 bt387.2.1 bt387.2.2 bt393.1 bt393.2.1 bt399.1 bt399.2.1 bt399.2.2 bt405.1 true a0_0 a0_1 a0_2 a0_3 a7_0 a7_1 a7_2 a7_3) else (if bt387.1 = bt390.1 then (if bt387.2.1 = bt390.2.1 then (if (bt393.2.2 != bt396.2.2) = true then (laws_FnIslandsMeasuredOfAll.j0 k a1 a2 a3 a4 a5 a6 a8 a9 bt387.1 bt387.2.1 bt387.2.2 bt393.1 bt393.2.1 bt399.1 bt399.2.1 bt399.2.2 bt405.1 true a0_0 a0_1 a0_2 a0_3 a7_0 a7_1 a7_2 a7_3) else (if bt393.1 = bt396.1 then (if bt393.2.1 = bt396.2.1 then (if (bt399.2.2 != bt402.2.2) = true then (laws_FnIslandsMeasuredOfAll.j0 k a1 a2 a3 a4 a5 a6 a8 a9 bt387.1 bt387.2.1 bt387.2.2 bt393.1 bt393.2.1 bt399.1 bt399.2.1 bt399.2.2 bt405.1 true a0_0 a0_1 a0_2 a0_3 a7_0 a7_1 a7_2 a7_3) else (if bt399.1 = bt402.1 then (if bt399.2.1 = bt402.2.1 then (if (bt405.2 != bt407.2) = true then (laws_FnIslandsMeasuredOfAll.j0 k a1 a2 a3 a4 a5 a6 a8 a9 bt387.1 bt387.2.1 bt387.2.2 bt393.1 bt393.2.1 bt399.1 bt399.2.1 bt399.2.2 bt405.1 true a0_0 a0_1 a0_2 a0_3 a7_0 a7_1 a7_2 a7_3) else (if bt405.1.toList = bt407.1.toList then ((impl_IsIsland.f a0_0 a0_1 a0_2 a0_3).bind fun t409 => (if (bt387.2.2 != t409) = true then (laws_FnIslandsMeasuredOfAll.j0 k a1 a2 a3 a4 a5 a6 a8 a9 bt387.1 bt387.2.1 bt387.2.2 bt393.1 bt393.2.1 bt399.1 bt399.2.1 bt399.2.2 bt405.1 true a0_0 a0_1 a0_2 a0_3 a7_0 a7_1 a7_2 a7_3) else ((impl_IsIsland.f a0_0 a0_1 a0_2 a0_3).bind fun t410 => ((spec_IsIsland.f k a0_0 a0_1 a0_2 a0_3).bind fun t411 => (if (t410 != t411) = true then (laws_FnIslandsMeasuredOfAll.j0 k a1 a2 a3 a4 a5 a6 a8 a9 bt387.1 bt387.2.1 bt387.2.2 bt393.1 bt393.2.1 bt399.1 bt399.2.1 bt399.2.2 bt405.1 true a0_0 a0_1 a0_2 a0_3 a7_0 a7_1 a7_2 a7_3) else (if (bt393.2.2 != bt387.2.2) = true then (laws_FnIslandsMeasuredOfAll.j0 k a1 a2 a3 a4 a5 a6 a8 a9 bt387.1 bt387.2.1 bt387.2.2 bt393.1 bt393.2.1 bt399.1 bt399.2.1 bt399.2.2 bt405.1 true a0_0 a0_1 a0_2 a0_3 a7_0 a7_1 a7_2 a7_3) else (if (bt405.2 != bt387.2.2) = true then (laws_FnIslandsMeasuredOfAll.j0 k a1 a2 a3 a4 a5 a6 a8 a9 bt387.1 bt387.2.1 bt387.2.2 bt393.1 bt393.2.1 bt399.1 bt399.2.1 bt399.2.2 bt405.1 true a0_0 a0_1 a0_2 a0_3 a7_0 a7_1 a7_2 a7_3) else (if bt387.2.2 = true then (laws_FnIslandsMeasuredOfAll.j0 k a1 a2 a3 a4 a5 a6 a8 a9 bt387.1 bt387.2.1 bt387.2.2 bt393.1 bt393.2.1 bt399.1 bt399.2.1 bt399.2.2 bt405.1 (bt399.2.2 != (decide ((wrap64 (a0_3 - a0_2)) > 1))) a0_0 a0_1 a0_2 a0_3 a7_0 a7_1 a7_2 a7_3) else (laws_FnIslandsMeasuredOfAll.j0 k a1 a2 a3 a4 a5 a6 a8 a9 bt387.1 bt387.2.1 bt387.2.2 bt393.1 bt393.2.1 bt399.1 bt399.2.1 bt399.2.2 bt405.1 (bt399.2.2 != false) a0_0 a0_1 a0_2 a0_3 a7_0 a7_1 a7_2 a7_3))))))))) else (laws_FnIslandsMeasuredOfAll.j0 k a1 a2 a3 a4 a5 a6 a8 a9 bt387.1 bt387.2.1 bt387.2.2 bt393.1 bt393.2.1 bt399.1 bt399.2.1 bt399.2.2 bt405.1 true a0_0 a0_1 a0_2 a0_3 a7_0 a7_1 a7_2 a7_3))) else (laws_FnIslandsMeasuredOfAll.j0 k a1 a2 a3 a4 a5 a6 a8 a9 bt387.1 bt387.2.1 bt387.2.2 bt393.1 bt393.2.1 bt399.1 bt399.2.1 bt399.2.2 bt405.1 true a0_0 a0_1 a0_2 a0_3 a7_0 a7_1 a7_2 a7_3)) else (laws_FnIslandsMeasuredOfAll.j0 k a1 a2 a3 a4 a5 a6 a8 a9 bt387.1 bt387.2.1 bt387.2.2 bt393.1 bt393.2.1 bt399.1 bt399.2.1 bt399.2.2 bt405.1 true a0_0 a0_1 a0_2 a0_3 a7_0 a7_1 a7_2 a7_3))) else (laws_FnIslandsMeasuredOfAll.j0 k a1 a2 a3 a4 a5 a6 a8 a9 bt387.1 bt387.2.1 bt387.2.2 bt393.1 bt393.2.1 bt399.1 bt399.2.1 bt399.2.2 bt405.1 true a0_0 a0_1 a0_2 a0_3 a7_0 a7_1 a7_2 a7_3)) else (laws_FnIslandsMeasuredOfAll.j0 k a1 a2 a3 a4 a5 a6 a8 a9 bt387.1 bt387.2.1 bt387.2.2 bt393.1 bt393.2.1 bt399.1 bt399.2.1 bt399.2.2 bt405.1 true a0_0 a0_1 a0_2 a0_3 a7_0 a7_1 a7_2 a7_3))) else (laws_FnIslandsMeasuredOfAll.j0 k a1 a2 a3 a4 a5 a6 a8 a9 bt387.1 bt387.2.1 bt387.2.2 bt393.1 bt393.2.1 bt399.1 bt399.2.1 bt399.2.2 bt405.1 true a0_0 a0_1 a0_2 a0_3 a7_0 a7_1 a7_2 a7_3)) else (laws_FnIslandsMeasuredOfAll.j0 k a1 a2 a3 a4 a5 a6 a8 a9 bt387.1 bt387.2.1 bt387.2.2 bt393.1 bt393.2.1 bt399.1 bt399.2.1 bt399.2.2 bt405.1 true a0_0 a0_1 a0_2 a0_3 a7_0 a7_1 a7_2 a7_3)))))))))))) = some r := h
  clear h
  by_cases c11 : (a9.size : Int) > 1048576
  · rw [if_pos c11] at H
    have c11b0 : decide (1048576 < (a9.size : Int)) = true := decide_eq_true c11
    have c11b1 : decide (1048576 < a9.size) = true := decide_eq_true (by omega)
    clear c11
    obtain rfl := Option.some.inj H
    as_aux_lemma =>
     go_enter Tryd.func3, Tryd.ntmps3
     go_wp2_with (first | ((with_reducible refine gate_dst (N := 10) rfl ?_); refine zE 10 #[.int .i64 a0_0, .int .i64 a0_1, .int .i64 a0_2, .int .i64 a0_3] 23 ?_; intro gb385 hg w12 hbox hb; have BK385 := Aside0.mk (hbox); have GW385 := zg HB hg; have GE385 := GW385; replace HB := zh HB hb; clear hb hbox hg) | ((with_reducible refine gate_dst (N := 17) rfl ?_); refine zE 17 #[.int .i64 a7_0, .int .i64 a7_1, .int .i64 a7_2, .int .i64 a7_3] 23 ?_; intro gb386 hg w13 hbox hb; have BK386 := Aside0.mk (hbox); have GW386 := zg HB hg; have GE386 := GW386; have NB385_386 := zl BK385 hg; have NB386_385 := zr BK385 hg; replace BK385 := zb BK385 hb; replace HB := zh HB hb; clear hb hbox hg))
     go_ret
     exact ⟨zt, zy HB⟩
  · rw [if_neg c11] at H
    have c11b0 : decide (1048576 < (a9.size : Int)) = false := decide_eq_false c11
    have c11b1 : decide (1048576 < a9.size) = false := decide_eq_false (by omega)
    clear c11; replace H := Option.bind_eq_some_iff.mp H; obtain ⟨⟨t387, t388, t389⟩, A140, H⟩ := H; (try dsimp only at H); have A14 := Aside0.mk A140; clear A140; replace H := Option.bind_eq_some_iff.mp H; obtain ⟨⟨t390, t391, t392⟩, A150, H⟩ := H; (try dsimp only at H); have A15 := Aside0.mk A150; clear A150; replace H := Option.bind_eq_some_iff.mp H; obtain ⟨⟨t393, t394, t395⟩, A160, H⟩ := H; (try dsimp only at H); have A16 := Aside0.mk A160; clear A160; replace H := Option.bind_eq_some_iff.mp H; obtain ⟨⟨t396, t397, t398⟩, A170, H⟩ := H; (try dsimp only at H); have A17 := Aside0.mk A170; clear A170; replace H := Option.bind_eq_some_iff.mp H; obtain ⟨⟨t399, t400, t401⟩, A180, H⟩ := H; (try dsimp only at H); have A18 := Aside0.mk A180; clear A180; replace H := Option.bind_eq_some_iff.mp H; obtain ⟨⟨t402, t403, t404⟩, A190, H⟩ := H; (try dsimp only at H); have A19 := Aside0.mk A190; clear A190; replace H := Option.bind_eq_some_iff.mp H; obtain ⟨⟨t405, t406⟩, A200, H⟩ := H; (try dsimp only at H); have A20 := Aside0.mk A200; clear A200; replace H := Option.bind_eq_some_iff.mp H; obtain ⟨⟨t407, t408⟩, A210, H⟩ := H; (try dsimp only at H); have A21 := Aside0.mk A210; clear A210; have HC22 := Aside0.mk H; clear H
    as_aux_lemma =>
     go_enter Tryd.func3, Tryd.ntmps3
     go_upto_region 11 with (first | ((with_reducible refine gate_dst (N := 10) rfl ?_); refine zE 10 #[.int .i64 a0_0, .int .i64 a0_1, .int .i64 a0_2, .int .i64 a0_3] 23 ?_; intro gb385 hg w23 hbox hb; have BK385 := Aside0.mk (hbox); have GW385 := zg HB hg; have GE385 := GW385; replace HB := zh HB hb; clear hb hbox hg) | ((with_reducible refine gate_dst (N := 17) rfl ?_); refine zE 17 #[.int .i64 a7_0, .int .i64 a7_1, .int .i64 a7_2, .int .i64 a7_3] 23 ?_; intro gb386 hg w24 hbox hb; have BK386 := Aside0.mk (hbox); have GW386 := zg HB hg; have GE386 := GW386; have NB385_386 := zl BK385 hg; have NB386_385 := zr BK385 hg; replace BK385 := zb BK385 hb; replace HB := zh HB hb; clear hb hbox hg; replace hNB385_386 := NB385_386.out; replace hNB386_385 := NB386_385.out; replace hz385 := zc4 BK385) | ((with_reducible refine gate_callee (f := 4) rfl ?_); refine zG (some 103) Tryd.func4 #[.agg #[.int .i64 a0_0, .int .i64 a0_1, .int .i64 a0_2, .int .i64 a0_3]] ?_; (with_reducible refine (impl_IslandHeight.calls k a0_0 a0_1 a0_2 a0_3 t387 t388 t389 _ A14.out).mono ?_); rintro e w27 ⟨rfl, hb⟩; refine ⟨_, rfl, ?_⟩; replace BK385 := zb BK385 hb; replace BK386 := zb BK386 hb; replace HB := zh HB hb; clear hb; replace hz385 := zc4 BK385) | ((with_reducible refine gate_callee (f := 5) rfl ?_); refine zG (some 109) Tryd.func5 #[.agg #[.int .i64 a0_0, .int .i64 a0_1, .int .i64 a0_2, .int .i64 a0_3]] ?_; (with_reducible refine (spec_IslandHeight.calls k a0_0 a0_1 a0_2 a0_3 t390 t391 t392 _ A15.out).mono ?_); rintro e w29 ⟨rfl, hb⟩; refine ⟨_, rfl, ?_⟩; replace BK385 := zb BK385 hb; replace BK386 := zb BK386 hb; replace HB := zh HB hb; clear hb; replace hz385 := zc4 BK385) | ((with_reducible refine gate_callee (f := 6) rfl ?_); refine zG (some 115) Tryd.func6 #[.agg #[.int .i64 a0_0, .int .i64 a0_1, .int .i64 a0_2, .int .i64 a0_3]] ?_; (with_reducible refine (impl_IslandAway.calls k a0_0 a0_1 a0_2 a0_3 t393 t394 t395 _ A16.out).mono ?_); rintro e w31 ⟨rfl, hb⟩; refine ⟨_, rfl, ?_⟩; replace BK385 := zb BK385 hb; replace BK386 := zb BK386 hb; replace HB := zh HB hb; clear hb; replace hz385 := zc4 BK385) | ((with_reducible refine gate_callee (f := 7) rfl ?_); refine zG (some 121) Tryd.func7 #[.agg #[.int .i64 a0_0, .int .i64 a0_1, .int .i64 a0_2, .int .i64 a0_3]] ?_; (with_reducible refine (spec_IslandAway.calls k a0_0 a0_1 a0_2 a0_3 t396 t397 t398 _ A17.out).mono ?_); rintro e w33 ⟨rfl, hb⟩; refine ⟨_, rfl, ?_⟩; replace BK385 := zb BK385 hb; replace BK386 := zb BK386 hb; replace HB := zh HB hb; clear hb; replace hz385 := zc4 BK385) | ((with_reducible refine gate_callee (f := 8) rfl ?_); refine zG (some 127) Tryd.func8 #[.agg #[.int .i64 a0_0, .int .i64 a0_1, .int .i64 a0_2, .int .i64 a0_3]] ?_; (with_reducible refine (impl_HigherByStep.calls k a0_0 a0_1 a0_2 a0_3 t399 t400 t401 _ A18.out).mono ?_); rintro e w35 ⟨rfl, hb⟩; refine ⟨_, rfl, ?_⟩; replace BK385 := zb BK385 hb; replace BK386 := zb BK386 hb; replace HB := zh HB hb; clear hb; replace hz385 := zc4 BK385) | ((with_reducible refine gate_callee (f := 9) rfl ?_); refine zG (some 133) Tryd.func9 #[.agg #[.int .i64 a0_0, .int .i64 a0_1, .int .i64 a0_2, .int .i64 a0_3]] ?_; (with_reducible refine (spec_HigherByStep.calls k a0_0 a0_1 a0_2 a0_3 t402 t403 t404 _ A19.out).mono ?_); rintro e w37 ⟨rfl, hb⟩; refine ⟨_, rfl, ?_⟩; replace BK385 := zb BK385 hb; replace BK386 := zb BK386 hb; replace HB := zh HB hb; clear hb; replace hz385 := zc4 BK385) | ((with_reducible refine gate_callee (f := 10) rfl ?_); refine zG (some 139) Tryd.func10 #[.agg #[.int .i64 a0_0, .int .i64 a0_1, .int .i64 a0_2, .int .i64 a0_3]] ?_; (with_reducible refine (impl_IslandText.calls a0_0 a0_1 a0_2 a0_3 t405 t406 _ (LaidP.below HL_.out.p (zy HB)) A20.out).mono ?_); rintro e w39 ⟨rfl, hb⟩; refine ⟨_, rfl, ?_⟩; replace BK385 := zb BK385 hb; replace BK386 := zb BK386 hb; replace HB := zh HB hb; clear hb; replace hz385 := zc4 BK385) | ((with_reducible refine gate_callee (f := 11) rfl ?_); refine zG (some 144) Tryd.func11 #[.agg #[.int .i64 a0_0, .int .i64 a0_1, .int .i64 a0_2, .int .i64 a0_3]] ?_; (with_reducible refine (spec_IslandText.calls k a0_0 a0_1 a0_2 a0_3 t407 t408 _ A21.out).mono ?_); rintro e w41 ⟨rfl, hb⟩; refine ⟨_, rfl, ?_⟩; replace BK385 := zb BK385 hb; replace BK386 := zb BK386 hb; replace HB := zh HB hb; clear hb))
     (try simp only [Act.put, List.setIfInBounds_toArray, List.set_cons_zero, List.set_cons_succ])
     go_cut [235] from 98 to 146 (fun v235 wc => ∃ (kq : Nat) (x235_21 : Bool), v235 = .bool x235_21 ∧ Aside0 (laws_FnIslandsMeasuredOfAll.j0 kq a1 a2 a3 a4 a5 a6 a8 a9 t387 t388 t389 t393 t394 t399 t400 t401 t405 x235_21 a0_0 a0_1 a0_2 a0_3 a7_0 a7_1 a7_2 a7_3 = some r) ∧ Aside0 (kq ≤ k) ∧ Aside0 (wc.heap[gb385]? = some (.cells #[.int .i64 a0_0, .int .i64 a0_1, .int .i64 a0_2, .int .i64 a0_3] 23 (0, 0))) ∧ Aside0 (wc.heap[gb386]? = some (.cells #[.int .i64 a7_0, .int .i64 a7_1, .int .i64 a7_2, .int .i64 a7_3] 23 (0, 0))) ∧ Aside0 (Below w.heap.size w wc))
     case first =>
       (try simp only [List.append_eq, List.cons_append, List.nil_append])
       have H := HC22.out; clear HC22
       by_cases c42 : (t389 != t392) = true
       · rw [if_pos c42] at H
         have c42b0 : (t389 != t392) = true := c42
         (try (have c42b1 : decide (t389 = t392) = false := by simpa using c42))
         (try (have c42b2 : (t389 == t392) = false := by simpa using c42))
         (try (have c42b3 : ¬ (t389 = t392) := by simpa using c42))
         clear c42
         (first | rw [c42b0] | (simp only [i64_w, i32_w]; rw [c42b0]) | skip)
         exact absurd (HR_.out.symm.trans (laws_FnIslandsMeasuredOfAll.j0_true _ _ _ _ _ _ _ _ _ _ _ _ _ _ _ _ _ _ _ _ _ _ _ _ _ _ _ H)) (by decide)
       · rw [if_neg c42] at H
         have c42b0 : (t389 != t392) = false := by simpa using c42
         (try (have c42b1 : decide (t389 = t392) = true := by simpa using c42))
         (try (have c42b2 : (t389 == t392) = true := by simpa using c42))
         clear c42
         (first | rw [c42b0] | (simp only [i64_w, i32_w]; rw [c42b0]) | skip)
         by_cases c44 : t387 = t390
         · rw [if_pos c44] at H
           have c44b0 : (t387 == t390) = true := beq_iff_eq.mpr c44
           have c44b1 : (t387 != t390) = false := bne_eq_false_iff_eq.mpr c44
           clear c44
           by_cases c45 : t388 = t391
           · rw [if_pos c45] at H
             have c45b0 : (t388 == t391) = true := beq_iff_eq.mpr c45
             have c45b1 : (t388 != t391) = false := bne_eq_false_iff_eq.mpr c45
             clear c45
             by_cases c46 : (t395 != t398) = true
             · rw [if_pos c46] at H
               have c46b0 : (t395 != t398) = true := c46
               (try (have c46b1 : decide (t395 = t398) = false := by simpa using c46))
               (try (have c46b2 : (t395 == t398) = false := by simpa using c46))
               (try (have c46b3 : ¬ (t395 = t398) := by simpa using c46))
               clear c46
               exact absurd (HR_.out.symm.trans (laws_FnIslandsMeasuredOfAll.j0_true _ _ _ _ _ _ _ _ _ _ _ _ _ _ _ _ _ _ _ _ _ _ _ _ _ _ _ H)) (by decide)
             · rw [if_neg c46] at H
               have c46b0 : (t395 != t398) = false := by simpa using c46
               (try (have c46b1 : decide (t395 = t398) = true := by simpa using c46))
               (try (have c46b2 : (t395 == t398) = true := by simpa using c46))
               clear c46
               by_cases c48 : t393 = t396
               · rw [if_pos c48] at H
                 have c48b0 : (t393 == t396) = true := beq_iff_eq.mpr c48
                 have c48b1 : (t393 != t396) = false := bne_eq_false_iff_eq.mpr c48
                 clear c48
                 by_cases c49 : t394 = t397
                 · rw [if_pos c49] at H
                   have c49b0 : (t394 == t397) = true := beq_iff_eq.mpr c49
                   have c49b1 : (t394 != t397) = false := bne_eq_false_iff_eq.mpr c49
                   clear c49
                   by_cases c50 : (t401 != t404) = true
                   · rw [if_pos c50] at H
                     have c50b0 : (t401 != t404) = true := c50
                     (try (have c50b1 : decide (t401 = t404) = false := by simpa using c50))
                     (try (have c50b2 : (t401 == t404) = false := by simpa using c50))
                     (try (have c50b3 : ¬ (t401 = t404) := by simpa using c50))
                     clear c50
                     exact absurd (HR_.out.symm.trans (laws_FnIslandsMeasuredOfAll.j0_true _ _ _ _ _ _ _ _ _ _ _ _ _ _ _ _ _ _ _ _ _ _ _ _ _ _ _ H)) (by decide)
                   · rw [if_neg c50] at H
                     have c50b0 : (t401 != t404) = false := by simpa using c50
                     (try (have c50b1 : decide (t401 = t404) = true := by simpa using c50))
                     (try (have c50b2 : (t401 == t404) = true := by simpa using c50))
                     clear c50
                     by_cases c52 : t399 = t402
                     · rw [if_pos c52] at H
                       have c52b0 : (t399 == t402) = true := beq_iff_eq.mpr c52
                       have c52b1 : (t399 != t402) = false := bne_eq_false_iff_eq.mpr c52
                       clear c52
                       by_cases c53 : t400 = t403
                       · rw [if_pos c53] at H
                         have c53b0 : (t400 == t403) = true := beq_iff_eq.mpr c53
                         have c53b1 : (t400 != t403) = false := bne_eq_false_iff_eq.mpr c53
                         clear c53
                         by_cases c54 : (t406 != t408) = true
                         · rw [if_pos c54] at H
                           have c54b0 : (t406 != t408) = true := c54
                           (try (have c54b1 : decide (t406 = t408) = false := by simpa using c54))
                           (try (have c54b2 : (t406 == t408) = false := by simpa using c54))
                           (try (have c54b3 : ¬ (t406 = t408) := by simpa using c54))
                           clear c54
                           exact absurd (HR_.out.symm.trans (laws_FnIslandsMeasuredOfAll.j0_true _ _ _ _ _ _ _ _ _ _ _ _ _ _ _ _ _ _ _ _ _ _ _ _ _ _ _ H)) (by decide)
                         · rw [if_neg c54] at H
                           have c54b0 : (t406 != t408) = false := by simpa using c54
                           (try (have c54b1 : decide (t406 = t408) = true := by simpa using c54))
                           (try (have c54b2 : (t406 == t408) = true := by simpa using c54))
                           clear c54
                           by_cases c56 : t405.toList = t407.toList
                           · rw [if_pos c56] at H
                             have c56b0 : (t405.toList == t407.toList) = true := beq_iff_eq.mpr c56
                             have c56b1 : (t405.toList != t407.toList) = false := bne_eq_false_iff_eq.mpr c56
                             clear c56; replace H := Option.bind_eq_some_iff.mp H; obtain ⟨t409, A570, H⟩ := H; (try dsimp only at H); have A57 := Aside0.mk A570; clear A570
                             by_cases c58 : (t389 != t409) = true
                             · rw [if_pos c58] at H
                               have c58b0 : (t389 != t409) = true := c58
                               (try (have c58b1 : decide (t389 = t409) = false := by simpa using c58))
                               (try (have c58b2 : (t389 == t409) = false := by simpa using c58))
                               (try (have c58b3 : ¬ (t389 = t409) := by simpa using c58))
                               clear c58
                               exact absurd (HR_.out.symm.trans (laws_FnIslandsMeasuredOfAll.j0_true _ _ _ _ _ _ _ _ _ _ _ _ _ _ _ _ _ _ _ _ _ _ _ _ _ _ _ H)) (by decide)
                             · rw [if_neg c58] at H
                               have c58b0 : (t389 != t409) = false := by simpa using c58
                               (try (have c58b1 : decide (t389 = t409) = true := by simpa using c58))
                               (try (have c58b2 : (t389 == t409) = true := by simpa using c58))
                               clear c58; replace H := Option.bind_eq_some_iff.mp H; obtain ⟨t410, A610, H⟩ := H; (try dsimp only at H); have A61 := Aside0.mk A610; clear A610; replace H := Option.bind_eq_some_iff.mp H; obtain ⟨t411, A620, H⟩ := H; (try dsimp only at H); have A62 := Aside0.mk A620; clear A620
                               by_cases c63 : (t410 != t411) = true
                               · rw [if_pos c63] at H
                                 have c63b0 : (t410 != t411) = true := c63
                                 (try (have c63b1 : decide (t410 = t411) = false := by simpa using c63))
                                 (try (have c63b2 : (t410 == t411) = false := by simpa using c63))
                                 (try (have c63b3 : ¬ (t410 = t411) := by simpa using c63))
                                 clear c63
                                 exact absurd (HR_.out.symm.trans (laws_FnIslandsMeasuredOfAll.j0_true _ _ _ _ _ _ _ _ _ _ _ _ _ _ _ _ _ _ _ _ _ _ _ _ _ _ _ H)) (by decide)
                               · rw [if_neg c63] at H
                                 have c63b0 : (t410 != t411) = false := by simpa using c63
                                 (try (have c63b1 : decide (t410 = t411) = true := by simpa using c63))
                                 (try (have c63b2 : (t410 == t411) = true := by simpa using c63))
                                 clear c63
                                 by_cases c68 : (t395 != t389) = true
                                 · rw [if_pos c68] at H
                                   have c68b0 : (t395 != t389) = true := c68
                                   (try (have c68b1 : decide (t395 = t389) = false := by simpa using c68))
                                   (try (have c68b2 : (t395 == t389) = false := by simpa using c68))
                                   (try (have c68b3 : ¬ (t395 = t389) := by simpa using c68))
                                   clear c68
                                   exact absurd (HR_.out.symm.trans (laws_FnIslandsMeasuredOfAll.j0_true _ _ _ _ _ _ _ _ _ _ _ _ _ _ _ _ _ _ _ _ _ _ _ _ _ _ _ H)) (by decide)
                                 · rw [if_neg c68] at H
                                   have c68b0 : (t395 != t389) = false := by simpa using c68
                                   (try (have c68b1 : decide (t395 = t389) = true := by simpa using c68))
                                   (try (have c68b2 : (t395 == t389) = true := by simpa using c68))
                                   clear c68
                                   by_cases c73 : (t406 != t389) = true
                                   · rw [if_pos c73] at H
                                     have c73b0 : (t406 != t389) = true := c73
                                     (try (have c73b1 : decide (t406 = t389) = false := by simpa using c73))
                                     (try (have c73b2 : (t406 == t389) = false := by simpa using c73))
                                     (try (have c73b3 : ¬ (t406 = t389) := by simpa using c73))
                                     clear c73
                                     exact absurd (HR_.out.symm.trans (laws_FnIslandsMeasuredOfAll.j0_true _ _ _ _ _ _ _ _ _ _ _ _ _ _ _ _ _ _ _ _ _ _ _ _ _ _ _ H)) (by decide)
                                   · rw [if_neg c73] at H
                                     have c73b0 : (t406 != t389) = false := by simpa using c73
                                     (try (have c73b1 : decide (t406 = t389) = true := by simpa using c73))
                                     (try (have c73b2 : (t406 == t389) = true := by simpa using c73))
                                     clear c73
                                     by_cases c78 : t389 = true
                                     · subst c78
                                       rw [if_pos rfl] at H; have H' := Aside0.mk H; clear H
                                       as_aux_lemma =>
                                        try go_wp2
                                        replace BK385 := Aside0.mk (blk_drew BK385.out); replace BK386 := Aside0.mk (blk_drew BK386.out); replace HB := Aside0.mk (below_drew1 HB.out)
                                        refine start_ (n := 89) (S := fun w' => w'.cell? ⟨gb385, 0, none⟩ = some (.int .i64 a0_0) ∧ w'.cell? ⟨gb385, 1, none⟩ = some (.int .i64 a0_1) ∧ w'.cell? ⟨gb385, 2, none⟩ = some (.int .i64 a0_2) ∧ w'.cell? ⟨gb385, 3, none⟩ = some (.int .i64 a0_3)) (ds := []) #[false, false, false, false, false, false, false, false, false, false, false, false, false, false, false, false, false, false, false, false, false, false, false, false, false, false, false, false, false, false, false, false, false, false, false, false, false, false, false, false, false, false, false, false, false, false, false, false, false, false, false, false, false, false, false, false, false, false, false, false, false, false, false, false, false, false, false, false, false, false, false, false, false, false, false, false, false, false, false, false, false, false, false, false, false, false, false, false, false] (by kernel_rfl) rfl rfl ⟨(blk_cell BK385.out 0).trans rfl, (blk_cell BK385.out 1).trans rfl, (blk_cell BK385.out 2).trans rfl, (blk_cell BK385.out 3).trans rfl⟩ (fun hHeld => ?_); refine with_tabW laws_FnIslandsMeasuredOfAll.tab11 laws_FnIslandsMeasuredOfAll.bits11 (fun HT_ HW_ => ?_)
                                        generalize w41.drew = w79 at BK385 BK386 HB hHeld ⊢
                                        refine zA 0 147 HT_ ?_
                                        refine zA 1 148 HT_ ?_
                                        refine zA 2 149 HT_ ?_
                                        refine zA 3 150 HT_ ?_
                                        refine zA 4 151 HT_ ?_
                                        refine zA 5 152 HT_ ?_
                                        refine zA 6 153 HT_ ?_
                                        refine zA 7 154 HT_ ?_
                                        refine zA 8 155 HT_ ?_
                                        refine zA 9 156 HT_ ?_
                                        refine zA 10 157 HT_ ?_
                                        refine zA 11 158 HT_ ?_
                                        refine zA 12 159 HT_ ?_
                                        refine zA 13 160 HT_ ?_
                                        refine zA 14 161 HT_ ?_
                                        refine zA 15 162 HT_ ?_
                                        refine zA 16 163 HT_ ?_
                                        refine zA 17 164 HT_ ?_
                                        refine zA 18 165 HT_ ?_
                                        refine zA 19 166 HT_ ?_
                                        refine zA 20 167 HT_ ?_
                                        refine zA 21 168 HT_ ?_
                                        refine zA 22 169 HT_ ?_
                                        refine zA 23 170 HT_ ?_
                                        refine zA 24 171 HT_ ?_
                                        refine zA 25 172 HT_ ?_
                                        refine zA 26 173 HT_ ?_
                                        refine zA 27 174 HT_ ?_
                                        refine zA 28 175 HT_ ?_
                                        refine zA 29 176 HT_ ?_
                                        refine zA 30 177 HT_ ?_
                                        refine zA 31 178 HT_ ?_
                                        refine zA 32 179 HT_ ?_
                                        refine zA 33 180 HT_ ?_
                                        refine zA 34 181 HT_ ?_
                                        refine zA 35 182 HT_ ?_
                                        refine zA 36 183 HT_ ?_
                                        refine zA 37 184 HT_ ?_
                                        refine zA 38 185 HT_ ?_
                                        refine zA 39 186 HT_ ?_
                                        refine zA 40 187 HT_ ?_
                                        refine zA 41 188 HT_ ?_
                                        refine zA 42 189 HT_ ?_
                                        refine zA 43 190 HT_ ?_
                                        refine zA 44 191 HT_ ?_
                                        refine zA 45 192 HT_ ?_
                                        refine zA 46 193 HT_ ?_
                                        refine zA 47 194 HT_ ?_
                                        refine zA 48 195 HT_ ?_
                                        refine zA 49 196 HT_ ?_
                                        refine zA 50 197 HT_ ?_
                                        refine zA 51 198 HT_ ?_
                                        refine zA 52 199 HT_ ?_
                                        refine zA 53 200 HT_ ?_
                                        refine zA 54 201 HT_ ?_
                                        refine zT 55 202 HT_ HW_ hHeld ?_
                                        refine zO 56 (some 203) HT_ (fun K hK => ?_)
                                        refine goes_ Tryd.func12 (by kernel_rfl) rfl #[.agg #[.int .i64 a0_0, .int .i64 a0_1, .int .i64 a0_2, .int .i64 a0_3]] (by rfl) rfl rfl zO3_1 ?_
                                        with_reducible refine (impl_IsIsland.calls a0_0 a0_1 a0_2 a0_3 t409 _ A57.out).mono ?_
                                        rintro e w80 ⟨rfl, hb⟩
                                        refine ⟨_, rfl, ?_⟩
                                        replace BK385 := zb BK385 hb; replace BK386 := zb BK386 hb; replace HB := zh HB hb
                                        (try clear hb)
                                        (try clear hb2)
                                        (try clear hk)
                                        (try clear hi)
                                        refine hK.out _ _ ⟨(blk_cell BK385.out 0).trans rfl, (blk_cell BK385.out 1).trans rfl, (blk_cell BK385.out 2).trans rfl, (blk_cell BK385.out 3).trans rfl⟩ (fun hHeld => ?_)
                                        clear hK K
                                        refine zN 203 ?_
                                        refine zA 57 204 HT_ ?_
                                        refine zA 58 205 HT_ ?_
                                        refine zA 59 206 HT_ ?_
                                        refine zT 60 207 HT_ HW_ hHeld ?_
                                        refine zT 62 209 HT_ HW_ hHeld ?_
                                        refine zO 61 (some 208) HT_ (fun K hK => ?_)
                                        refine goes_ Tryd.func12 (by kernel_rfl) rfl #[.agg #[.int .i64 a0_0, .int .i64 a0_1, .int .i64 a0_2, .int .i64 a0_3]] (by rfl) rfl rfl zO3_1 ?_
                                        with_reducible refine (impl_IsIsland.calls a0_0 a0_1 a0_2 a0_3 t410 _ A61.out).mono ?_
                                        rintro e w81 ⟨rfl, hb⟩
                                        refine ⟨_, rfl, ?_⟩
                                        replace BK385 := zb BK385 hb; replace BK386 := zb BK386 hb; replace HB := zh HB hb
                                        (try clear hb)
                                        (try clear hb2)
                                        (try clear hk)
                                        (try clear hi)
                                        refine hK.out _ _ ⟨(blk_cell BK385.out 0).trans rfl, (blk_cell BK385.out 1).trans rfl, (blk_cell BK385.out 2).trans rfl, (blk_cell BK385.out 3).trans rfl⟩ (fun hHeld => ?_)
                                        clear hK K
                                        refine zN 208 ?_
                                        refine zO 63 (some 210) HT_ (fun K hK => ?_)
                                        refine goes_ Tryd.func13 (by kernel_rfl) rfl #[.agg #[.int .i64 a0_0, .int .i64 a0_1, .int .i64 a0_2, .int .i64 a0_3]] (by rfl) rfl rfl zO3_1 ?_
                                        with_reducible refine (spec_IsIsland.calls k a0_0 a0_1 a0_2 a0_3 t411 _ A62.out).mono ?_
                                        rintro e w82 ⟨rfl, hb⟩
                                        refine ⟨_, rfl, ?_⟩
                                        replace BK385 := zb BK385 hb; replace BK386 := zb BK386 hb; replace HB := zh HB hb
                                        (try clear hb)
                                        (try clear hb2)
                                        (try clear hk)
                                        (try clear hi)
                                        refine hK.out _ _ ⟨(blk_cell BK385.out 0).trans rfl, (blk_cell BK385.out 1).trans rfl, (blk_cell BK385.out 2).trans rfl, (blk_cell BK385.out 3).trans rfl⟩ (fun hHeld => ?_)
                                        clear hK K
                                        refine zN 210 ?_
                                        refine zA 64 211 HT_ ?_
                                        refine zA 65 212 HT_ ?_
                                        refine zA 66 213 HT_ ?_
                                        refine zA 67 214 HT_ ?_
                                        refine zA 68 215 HT_ ?_
                                        refine zA 69 216 HT_ ?_
                                        refine zA 70 217 HT_ ?_
                                        refine zA 71 218 HT_ ?_
                                        refine zA 72 219 HT_ ?_
                                        refine zA 73 220 HT_ ?_
                                        refine zA 74 221 HT_ ?_
                                        refine zA 75 222 HT_ ?_
                                        refine zA 76 223 HT_ ?_
                                        refine zA 77 224 HT_ ?_
                                        refine zA 78 225 HT_ ?_
                                        refine zA 79 226 HT_ ?_
                                        refine zA 80 227 HT_ ?_
                                        refine zA 82 229 HT_ ?_
                                        refine zT 81 228 HT_ HW_ hHeld ?_
                                        refine zT 83 230 HT_ HW_ hHeld ?_
                                        refine zA 84 231 HT_ ?_
                                        refine zA 85 232 HT_ ?_
                                        refine zA 86 233 HT_ ?_
                                        refine zA 87 234 HT_ ?_
                                        refine zA 88 235 HT_ ?_
                                        refine done_ (done_of HT_.out (by kernel_rfl)) ?_
                                        try go_wp2
                                        go_meet
                                        case rel => exact ⟨_, ((t401 != (decide ((wrap64 (a0_3 - a0_2)) > 1)))), zu, H', ⟨by first | omega | exact Nat.le_refl _⟩, zk BK385, zk BK386, ⟨zy HB⟩⟩
                                     · replace c78 := Bool.eq_false_iff.mpr c78
                                       subst c78; rw [if_neg (show ¬ (false = true) by decide)] at H; have H' := Aside0.mk H; clear H
                                       as_aux_lemma =>
                                        try go_wp2
                                        replace BK385 := Aside0.mk (blk_drew BK385.out); replace BK386 := Aside0.mk (blk_drew BK386.out); replace HB := Aside0.mk (below_drew1 HB.out)
                                        refine start_ (n := 89) (S := fun w' => w'.cell? ⟨gb385, 0, none⟩ = some (.int .i64 a0_0) ∧ w'.cell? ⟨gb385, 1, none⟩ = some (.int .i64 a0_1) ∧ w'.cell? ⟨gb385, 2, none⟩ = some (.int .i64 a0_2) ∧ w'.cell? ⟨gb385, 3, none⟩ = some (.int .i64 a0_3)) (ds := []) #[false, false, false, false, false, false, false, false, false, false, false, false, false, false, false, false, false, false, false, false, false, false, false, false, false, false, false, false, false, false, false, false, false, false, false, false, false, false, false, false, false, false, false, false, false, false, false, false, false, false, false, false, false, false, false, false, false, false, false, false, false, false, false, false, false, false, false, false, false, false, false, false, false, false, false, false, false, false, false, false, false, false, false, false, false, false, false, false, false] (by kernel_rfl) rfl rfl ⟨(blk_cell BK385.out 0).trans rfl, (blk_cell BK385.out 1).trans rfl, (blk_cell BK385.out 2).trans rfl, (blk_cell BK385.out 3).trans rfl⟩ (fun hHeld => ?_); refine with_tabW laws_FnIslandsMeasuredOfAll.tab11 laws_FnIslandsMeasuredOfAll.bits11 (fun HT_ HW_ => ?_)
                                        generalize w41.drew = w83 at BK385 BK386 HB hHeld ⊢
                                        refine zA 0 147 HT_ ?_
                                        refine zA 1 148 HT_ ?_
                                        refine zA 2 149 HT_ ?_
                                        refine zA 3 150 HT_ ?_
                                        refine zA 4 151 HT_ ?_
                                        refine zA 5 152 HT_ ?_
                                        refine zA 6 153 HT_ ?_
                                        refine zA 7 154 HT_ ?_
                                        refine zA 8 155 HT_ ?_
                                        refine zA 9 156 HT_ ?_
                                        refine zA 10 157 HT_ ?_
                                        refine zA 11 158 HT_ ?_
                                        refine zA 12 159 HT_ ?_
                                        refine zA 13 160 HT_ ?_
                                        refine zA 14 161 HT_ ?_
                                        refine zA 15 162 HT_ ?_
                                        refine zA 16 163 HT_ ?_
                                        refine zA 17 164 HT_ ?_
                                        refine zA 18 165 HT_ ?_
                                        refine zA 19 166 HT_ ?_
                                        refine zA 20 167 HT_ ?_
                                        refine zA 21 168 HT_ ?_
                                        refine zA 22 169 HT_ ?_
                                        refine zA 23 170 HT_ ?_
                                        refine zA 24 171 HT_ ?_
                                        refine zA 25 172 HT_ ?_
                                        refine zA 26 173 HT_ ?_
                                        refine zA 27 174 HT_ ?_
                                        refine zA 28 175 HT_ ?_
                                        refine zA 29 176 HT_ ?_
                                        refine zA 30 177 HT_ ?_
                                        refine zA 31 178 HT_ ?_
                                        refine zA 32 179 HT_ ?_
                                        refine zA 33 180 HT_ ?_
                                        refine zA 34 181 HT_ ?_
                                        refine zA 35 182 HT_ ?_
                                        refine zA 36 183 HT_ ?_
                                        refine zA 37 184 HT_ ?_
                                        refine zA 38 185 HT_ ?_
                                        refine zA 39 186 HT_ ?_
                                        refine zA 40 187 HT_ ?_
                                        refine zA 41 188 HT_ ?_
                                        refine zA 42 189 HT_ ?_
                                        refine zA 43 190 HT_ ?_
                                        refine zA 44 191 HT_ ?_
                                        refine zA 45 192 HT_ ?_
                                        refine zA 46 193 HT_ ?_
                                        refine zA 47 194 HT_ ?_
                                        refine zA 48 195 HT_ ?_
                                        refine zA 49 196 HT_ ?_
                                        refine zA 50 197 HT_ ?_
                                        refine zA 51 198 HT_ ?_
                                        refine zA 52 199 HT_ ?_
                                        refine zA 53 200 HT_ ?_
                                        refine zA 54 201 HT_ ?_
                                        refine zT 55 202 HT_ HW_ hHeld ?_
                                        refine zO 56 (some 203) HT_ (fun K hK => ?_)
                                        refine goes_ Tryd.func12 (by kernel_rfl) rfl #[.agg #[.int .i64 a0_0, .int .i64 a0_1, .int .i64 a0_2, .int .i64 a0_3]] (by rfl) rfl rfl zO3_1 ?_
                                        with_reducible refine (impl_IsIsland.calls a0_0 a0_1 a0_2 a0_3 t409 _ A57.out).mono ?_
                                        rintro e w84 ⟨rfl, hb⟩
                                        refine ⟨_, rfl, ?_⟩
                                        replace BK385 := zb BK385 hb; replace BK386 := zb BK386 hb; replace HB := zh HB hb
                                        (try clear hb)
                                        (try clear hb2)
                                        (try clear hk)
                                        (try clear hi)
                                        refine hK.out _ _ ⟨(blk_cell BK385.out 0).trans rfl, (blk_cell BK385.out 1).trans rfl, (blk_cell BK385.out 2).trans rfl, (blk_cell BK385.out 3).trans rfl⟩ (fun hHeld => ?_)
                                        clear hK K
                                        refine zN 203 ?_
                                        refine zA 57 204 HT_ ?_
                                        refine zA 58 205 HT_ ?_
                                        refine zA 59 206 HT_ ?_
                                        refine zT 60 207 HT_ HW_ hHeld ?_
                                        refine zT 62 209 HT_ HW_ hHeld ?_
                                        refine zO 61 (some 208) HT_ (fun K hK => ?_)
                                        refine goes_ Tryd.func12 (by kernel_rfl) rfl #[.agg #[.int .i64 a0_0, .int .i64 a0_1, .int .i64 a0_2, .int .i64 a0_3]] (by rfl) rfl rfl zO3_1 ?_
                                        with_reducible refine (impl_IsIsland.calls a0_0 a0_1 a0_2 a0_3 t410 _ A61.out).mono ?_
                                        rintro e w85 ⟨rfl, hb⟩
                                        refine ⟨_, rfl, ?_⟩
                                        replace BK385 := zb BK385 hb; replace BK386 := zb BK386 hb; replace HB := zh HB hb
                                        (try clear hb)
                                        (try clear hb2)
                                        (try clear hk)
                                        (try clear hi)
                                        refine hK.out _ _ ⟨(blk_cell BK385.out 0).trans rfl, (blk_cell BK385.out 1).trans rfl, (blk_cell BK385.out 2).trans rfl, (blk_cell BK385.out 3).trans rfl⟩ (fun hHeld => ?_)
                                        clear hK K
                                        refine zN 208 ?_
                                        refine zO 63 (some 210) HT_ (fun K hK => ?_)
                                        refine goes_ Tryd.func13 (by kernel_rfl) rfl #[.agg #[.int .i64 a0_0, .int .i64 a0_1, .int .i64 a0_2, .int .i64 a0_3]] (by rfl) rfl rfl zO3_1 ?_
                                        with_reducible refine (spec_IsIsland.calls k a0_0 a0_1 a0_2 a0_3 t411 _ A62.out).mono ?_
                                        rintro e w86 ⟨rfl, hb⟩
                                        refine ⟨_, rfl, ?_⟩
                                        replace BK385 := zb BK385 hb; replace BK386 := zb BK386 hb; replace HB := zh HB hb
                                        (try clear hb)
                                        (try clear hb2)
                                        (try clear hk)
                                        (try clear hi)
                                        refine hK.out _ _ ⟨(blk_cell BK385.out 0).trans rfl, (blk_cell BK385.out 1).trans rfl, (blk_cell BK385.out 2).trans rfl, (blk_cell BK385.out 3).trans rfl⟩ (fun hHeld => ?_)
                                        clear hK K
                                        refine zN 210 ?_
                                        refine zA 64 211 HT_ ?_
                                        refine zA 65 212 HT_ ?_
                                        refine zA 66 213 HT_ ?_
                                        refine zA 67 214 HT_ ?_
                                        refine zA 68 215 HT_ ?_
                                        refine zA 69 216 HT_ ?_
                                        refine zA 70 217 HT_ ?_
                                        refine zA 71 218 HT_ ?_
                                        refine zA 72 219 HT_ ?_
                                        refine zA 73 220 HT_ ?_
                                        refine zA 74 221 HT_ ?_
                                        refine zA 75 222 HT_ ?_
                                        refine zA 76 223 HT_ ?_
                                        refine zA 77 224 HT_ ?_
                                        refine zA 78 225 HT_ ?_
                                        refine zA 79 226 HT_ ?_
                                        refine zAu 80 227 HT_ ?_
                                        refine zAu 81 228 HT_ ?_
                                        refine zAu 82 229 HT_ ?_
                                        refine zAu 83 230 HT_ ?_
                                        refine zAu 84 231 HT_ ?_
                                        refine zAu 85 232 HT_ ?_
                                        refine zA 86 233 HT_ ?_
                                        refine zA 87 234 HT_ ?_
                                        refine zA 88 235 HT_ ?_
                                        refine done_ (done_of HT_.out (by kernel_rfl)) ?_
                                        try go_wp2
                                        go_meet
                                        case rel => exact ⟨_, ((t401 != false)), zu, H', ⟨by first | omega | exact Nat.le_refl _⟩, zk BK385, zk BK386, ⟨zy HB⟩⟩
                           · rw [if_neg c56] at H
                             have c56b0 : (t405.toList == t407.toList) = false := beq_eq_false_iff_ne.mpr c56
                             have c56b1 : (t405.toList != t407.toList) = true := bne_iff_ne.mpr c56
                             exact absurd (HR_.out.symm.trans (laws_FnIslandsMeasuredOfAll.j0_true _ _ _ _ _ _ _ _ _ _ _ _ _ _ _ _ _ _ _ _ _ _ _ _ _ _ _ H)) (by decide)
                       · rw [if_neg c53] at H
                         have c53b0 : (t400 == t403) = false := beq_eq_false_iff_ne.mpr c53
                         have c53b1 : (t400 != t403) = true := bne_iff_ne.mpr c53
                         exact absurd (HR_.out.symm.trans (laws_FnIslandsMeasuredOfAll.j0_true _ _ _ _ _ _ _ _ _ _ _ _ _ _ _ _ _ _ _ _ _ _ _ _ _ _ _ H)) (by decide)
                     · rw [if_neg c52] at H
                       have c52b0 : (t399 == t402) = false := beq_eq_false_iff_ne.mpr c52
                       have c52b1 : (t399 != t402) = true := bne_iff_ne.mpr c52
                       exact absurd (HR_.out.symm.trans (laws_FnIslandsMeasuredOfAll.j0_true _ _ _ _ _ _ _ _ _ _ _ _ _ _ _ _ _ _ _ _ _ _ _ _ _ _ _ H)) (by decide)
                 · rw [if_neg c49] at H
                   have c49b0 : (t394 == t397) = false := beq_eq_false_iff_ne.mpr c49
                   have c49b1 : (t394 != t397) = true := bne_iff_ne.mpr c49
                   exact absurd (HR_.out.symm.trans (laws_FnIslandsMeasuredOfAll.j0_true _ _ _ _ _ _ _ _ _ _ _ _ _ _ _ _ _ _ _ _ _ _ _ _ _ _ _ H)) (by decide)
               · rw [if_neg c48] at H
                 have c48b0 : (t393 == t396) = false := beq_eq_false_iff_ne.mpr c48
                 have c48b1 : (t393 != t396) = true := bne_iff_ne.mpr c48
                 exact absurd (HR_.out.symm.trans (laws_FnIslandsMeasuredOfAll.j0_true _ _ _ _ _ _ _ _ _ _ _ _ _ _ _ _ _ _ _ _ _ _ _ _ _ _ _ H)) (by decide)
           · rw [if_neg c45] at H
             have c45b0 : (t388 == t391) = false := beq_eq_false_iff_ne.mpr c45
             have c45b1 : (t388 != t391) = true := bne_iff_ne.mpr c45
             exact absurd (HR_.out.symm.trans (laws_FnIslandsMeasuredOfAll.j0_true _ _ _ _ _ _ _ _ _ _ _ _ _ _ _ _ _ _ _ _ _ _ _ _ _ _ _ H)) (by decide)
         · rw [if_neg c44] at H
           have c44b0 : (t387 == t390) = false := beq_eq_false_iff_ne.mpr c44
           have c44b1 : (t387 != t390) = true := bne_iff_ne.mpr c44
           exact absurd (HR_.out.symm.trans (laws_FnIslandsMeasuredOfAll.j0_true _ _ _ _ _ _ _ _ _ _ _ _ _ _ _ _ _ _ _ _ _ _ _ _ _ _ _ H)) (by decide)
     case rest =>
       (try clear hz385)
       clear HC22
       obtain ⟨kq, x235_21, rfl, HA, HJ21, BK385, BK386, HB⟩ := hcut
       cases kq with
       | zero => exact absurd HA.out (by simp [laws_FnIslandsMeasuredOfAll.j0])
       | succ kj21 =>
         have H := HA.out; clear HA; simp only [laws_FnIslandsMeasuredOfAll.j0] at H
         by_cases c94 : x235_21 = true
         · subst c94
           rw [if_pos rfl] at H
           obtain rfl := Option.some.inj H
           exact absurd HR_.out (by decide)
         · replace c94 := Bool.eq_false_iff.mpr c94
           subst c94; rw [if_neg (show ¬ (false = true) by decide)] at H; have HC95 := Aside0.mk H; clear H
           as_aux_lemma =>
            go_upto_if 236 with (fail)
            go_cut [] from 236 to 236 (fun wc => ∃ (kq : Nat), Aside0 (laws_FnIslandsMeasuredOfAll.j6 kq a1 a2 a3 a4 a5 a6 a8 a9 t387 t388 t399 t400 t401 a0_0 a0_1 a0_2 a0_3 a7_0 a7_1 a7_2 a7_3 = some r) ∧ Aside0 (kq ≤ kj21) ∧ Aside0 (wc.heap[gb385]? = some (.cells #[.int .i64 a0_0, .int .i64 a0_1, .int .i64 a0_2, .int .i64 a0_3] 23 (0, 0))) ∧ Aside0 (wc.heap[gb386]? = some (.cells #[.int .i64 a7_0, .int .i64 a7_1, .int .i64 a7_2, .int .i64 a7_3] 23 (0, 0))) ∧ Aside0 (Below w.heap.size w wc))
            case first =>
              have H := HC95.out; clear HC95
              by_cases c96 : t389 = true
              · subst c96
                rw [if_pos rfl] at H; have HC97 := Aside0.mk H; clear H
                as_aux_lemma =>
                 go_upto_region 14 with (fail)
                 go_cut [291] from 236 to 236 (fun v291 wc => ∃ (kq : Nat) (x291_96 : Bool), v291 = .bool x291_96 ∧ Aside0 (laws_FnIslandsMeasuredOfAll.j1 kq a1 a2 a3 a4 a5 a6 a8 a9 t387 t388 t393 t394 t399 t400 t401 t405 x291_96 a0_0 a0_1 a0_2 a0_3 a7_0 a7_1 a7_2 a7_3 = some r) ∧ Aside0 (kq ≤ kj21) ∧ Aside0 (wc.heap[gb385]? = some (.cells #[.int .i64 a0_0, .int .i64 a0_1, .int .i64 a0_2, .int .i64 a0_3] 23 (0, 0))) ∧ Aside0 (wc.heap[gb386]? = some (.cells #[.int .i64 a7_0, .int .i64 a7_1, .int .i64 a7_2, .int .i64 a7_3] 23 (0, 0))) ∧ Aside0 (Below w.heap.size w wc))
                 case first =>
                   have H := HC97.out; clear HC97; replace H := Option.bind_eq_some_iff.mp H; obtain ⟨t412, A980, H⟩ := H; (try dsimp only at H); have A98 := Aside0.mk A980; clear A980
                   by_cases c99 : t412 = true
                   · subst c99
                     rw [if_pos rfl] at H; replace H := Option.bind_eq_some_iff.mp H; obtain ⟨t413, A1000, H⟩ := H; (try dsimp only at H); have A100 := Aside0.mk A1000; clear A1000
                     by_cases c101 : t413 = true
                     · subst c101
                       rw [if_pos rfl] at H
                       by_cases c102 : (wrap64 ((wrap64 ((wrap64 (t387 - (wrap64 (a0_0 * t388)))) * a0_2)) * t394)) = (wrap64 ((wrap64 (a0_0 * t393)) * t388))
                       · rw [if_pos c102] at H
                         have c102b0 : ((wrap64 ((wrap64 ((wrap64 (t387 - (wrap64 (a0_0 * t388)))) * a0_2)) * t394)) == (wrap64 ((wrap64 (a0_0 * t393)) * t388))) = true := beq_iff_eq.mpr c102
                         have c102b1 : ((wrap64 ((wrap64 ((wrap64 (t387 - (wrap64 (a0_0 * t388)))) * a0_2)) * t394)) != (wrap64 ((wrap64 (a0_0 * t393)) * t388))) = false := bne_eq_false_iff_eq.mpr c102
                         clear c102
                         (first | rw [c102b0] | (simp only [i64_w, i32_w]; rw [c102b0]) | skip)
                         have H' := Aside0.mk H; clear H
                         as_aux_lemma =>
                          go_wp2_with (first | ((with_reducible refine gate_callee (f := 14) rfl ?_); refine zG (some 239) Tryd.func14 #[.int .i64 t387, .int .i64 t388] ?_; (with_reducible refine (laws_yLow.calls kj21 t387 t388 true _ A98.out).mono ?_); rintro e w' ⟨rfl, ⟨nd, rfl⟩⟩; refine ⟨_, rfl, ?_⟩) | (go_at_call 14; (with_reducible refine (laws_yLow.calls kj21 t393 t394 true _ A100.out).mono ?_); rintro e w' ⟨rfl, ⟨nd, rfl⟩⟩; replace hNB385_386 := NB385_386.out; replace hNB386_385 := NB386_385.out; replace hz385 := zc4 BK385))
                          go_meet
                          case rel => exact ⟨_, (((wrap64 ((wrap64 ((wrap64 (t387 - (wrap64 (a0_0 * t388)))) * a0_3)) * t394)) != (wrap64 ((wrap64 (a0_0 * t388)) * (wrap64 (t393 + (wrap64 (a0_1 * t394)))))))), zu, H', ⟨by have := HJ21.out; first | omega | exact Nat.le_refl _⟩, zk BK385, zk BK386, ⟨zy HB⟩⟩
                       · rw [if_neg c102] at H
                         have c102b0 : ((wrap64 ((wrap64 ((wrap64 (t387 - (wrap64 (a0_0 * t388)))) * a0_2)) * t394)) == (wrap64 ((wrap64 (a0_0 * t393)) * t388))) = false := beq_eq_false_iff_ne.mpr c102
                         have c102b1 : ((wrap64 ((wrap64 ((wrap64 (t387 - (wrap64 (a0_0 * t388)))) * a0_2)) * t394)) != (wrap64 ((wrap64 (a0_0 * t393)) * t388))) = true := bne_iff_ne.mpr c102
                         (first | rw [c102b0] | (simp only [i64_w, i32_w]; rw [c102b0]) | skip)
                         exact absurd (HR_.out.symm.trans (laws_FnIslandsMeasuredOfAll.j1_true _ _ _ _ _ _ _ _ _ _ _ _ _ _ _ _ _ _ _ _ _ _ _ _ _ _ H)) (by decide)
                     · replace c101 := Bool.eq_false_iff.mpr c101
                       subst c101; rw [if_neg (show ¬ (false = true) by decide)] at H
                       exact absurd (HR_.out.symm.trans (laws_FnIslandsMeasuredOfAll.j1_true _ _ _ _ _ _ _ _ _ _ _ _ _ _ _ _ _ _ _ _ _ _ _ _ _ _ H)) (by decide)
                   · replace c99 := Bool.eq_false_iff.mpr c99
                     subst c99; rw [if_neg (show ¬ (false = true) by decide)] at H
                     exact absurd (HR_.out.symm.trans (laws_FnIslandsMeasuredOfAll.j1_true _ _ _ _ _ _ _ _ _ _ _ _ _ _ _ _ _ _ _ _ _ _ _ _ _ _ H)) (by decide)
                 case rest =>
                   (try clear hz385)
                   clear HC97
                   obtain ⟨kq, x291_96, rfl, HA, HJ96, BK385, BK386, HB⟩ := hcut
                   cases kq with
                   | zero => exact absurd HA.out (by simp [laws_FnIslandsMeasuredOfAll.j1])
                   | succ kj96 =>
                     have H := HA.out; clear HA; simp only [laws_FnIslandsMeasuredOfAll.j1] at H
                     by_cases c107 : x291_96 = true
                     · subst c107
                       rw [if_pos rfl] at H
                       obtain rfl := Option.some.inj H
                       exact absurd HR_.out (by decide)
                     · replace c107 := Bool.eq_false_iff.mpr c107
                       subst c107; rw [if_neg (show ¬ (false = true) by decide)] at H; have HC108 := Aside0.mk H; clear H
                       as_aux_lemma =>
                        go_upto_region 16 with (fail)
                        go_cut [297] from 1 to 0 (fun v297 wc => ∃ (kq : Nat) (x297_107 : Bool), v297 = .bool x297_107 ∧ Aside0 (laws_FnIslandsMeasuredOfAll.j2 kq a1 a2 a3 a4 a5 a6 a8 a9 t387 t388 t393 t394 t399 t400 t401 t405 x297_107 a0_0 a0_1 a0_2 a0_3 a7_0 a7_1 a7_2 a7_3 = some r) ∧ Aside0 (kq ≤ kj96) ∧ Aside0 (wc.heap[gb385]? = some (.cells #[.int .i64 a0_0, .int .i64 a0_1, .int .i64 a0_2, .int .i64 a0_3] 23 (0, 0))) ∧ Aside0 (wc.heap[gb386]? = some (.cells #[.int .i64 a7_0, .int .i64 a7_1, .int .i64 a7_2, .int .i64 a7_3] 23 (0, 0))) ∧ Aside0 (Below w.heap.size w wc))
                        case first =>
                          have H := HC108.out; clear HC108
                          by_cases c109 : t388 = 1
                          · rw [if_pos c109] at H
                            have c109b0 : (t388 == 1) = true := beq_iff_eq.mpr c109
                            have c109b1 : (t388 != 1) = false := bne_eq_false_iff_eq.mpr c109
                            clear c109
                            (first | rw [c109b0] | (simp only [i64_w, i32_w]; rw [c109b0]) | skip)
                            have H' := Aside0.mk H; clear H
                            as_aux_lemma =>
                             go_wp2
                             go_meet
                             case rel => exact ⟨_, (decide (t387 ≤ 2000)), zu, H', ⟨by have := HJ21.out; have := HJ96.out; first | omega | exact Nat.le_refl _⟩, zk BK385, zk BK386, ⟨zy HB⟩⟩
                          · rw [if_neg c109] at H
                            have c109b0 : (t388 == 1) = false := beq_eq_false_iff_ne.mpr c109
                            have c109b1 : (t388 != 1) = true := bne_iff_ne.mpr c109
                            (first | rw [c109b0] | (simp only [i64_w, i32_w]; rw [c109b0]) | skip)
                            have H' := Aside0.mk H; clear H
                            as_aux_lemma =>
                             go_wp2
                             go_meet
                             case rel => exact ⟨_, (false), zu, H', ⟨by have := HJ21.out; have := HJ96.out; first | omega | exact Nat.le_refl _⟩, zk BK385, zk BK386, ⟨zy HB⟩⟩
                        case rest =>
                          (try clear hz385)
                          clear HC108
                          obtain ⟨kq, x297_107, rfl, HA, HJ107, BK385, BK386, HB⟩ := hcut
                          cases kq with
                          | zero => exact absurd HA.out (by simp [laws_FnIslandsMeasuredOfAll.j2])
                          | succ kj107 =>
                            have H := HA.out; clear HA; simp only [laws_FnIslandsMeasuredOfAll.j2] at H
                            by_cases c110 : x297_107 = true
                            · subst c110
                              rw [if_pos rfl] at H; replace H := Option.bind_eq_some_iff.mp H; obtain ⟨⟨t414, t415, t416⟩, A1110, H⟩ := H; (try dsimp only at H); have A111 := Aside0.mk A1110; clear A1110; have HC112 := Aside0.mk H; clear H
                              replace hNB385_386 := NB385_386.out
                              replace hNB386_385 := NB386_385.out
                              replace hz385 := zc4 BK385
                              as_aux_lemma =>
                               go_upto_region 18 with (first | ((with_reducible refine gate_callee (f := 15) rfl ?_); refine zG (some 306) Tryd.func15 #[.int .i64 a0_0, .int .i64 a0_1, .int .i64 a0_2, .int .i64 t387] ?_; (with_reducible refine (impl_SecondStep.calls kj107 a0_0 a0_1 a0_2 t387 t414 t415 t416 _ A111.out).mono ?_); rintro e w115 ⟨rfl, hb⟩; refine ⟨_, rfl, ?_⟩; replace BK385 := zb BK385 hb; replace BK386 := zb BK386 hb; replace HB := zh HB hb; clear hb))
                               (try simp only [Act.put, List.setIfInBounds_toArray, List.set_cons_zero, List.set_cons_succ])
                               go_cut [319] from 298 to 309 (fun v319 wc => ∃ (kq : Nat) (x319_111 : Bool), v319 = .bool x319_111 ∧ Aside0 (laws_FnIslandsMeasuredOfAll.j3 kq a1 a2 a3 a4 a5 a6 a8 a9 t387 t388 t393 t394 t399 t400 t401 t405 x319_111 a0_0 a0_1 a0_2 a0_3 a7_0 a7_1 a7_2 a7_3 = some r) ∧ Aside0 (kq ≤ kj107) ∧ Aside0 (wc.heap[gb385]? = some (.cells #[.int .i64 a0_0, .int .i64 a0_1, .int .i64 a0_2, .int .i64 a0_3] 23 (0, 0))) ∧ Aside0 (wc.heap[gb386]? = some (.cells #[.int .i64 a7_0, .int .i64 a7_1, .int .i64 a7_2, .int .i64 a7_3] 23 (0, 0))) ∧ Aside0 (Below w.heap.size w wc))
                               case first =>
                                 have H := HC112.out; clear HC112
                                 by_cases c116 : t416 = true
                                 · subst c116
                                   rw [if_pos rfl] at H; replace H := Option.bind_eq_some_iff.mp H; obtain ⟨t417, A1170, H⟩ := H
                                   replace H : (laws_FnIslandsMeasuredOfAll.j3 kj107 a1 a2 a3 a4 a5 a6 a8 a9 t387 t388 t393 t394 t399 t400 t401 t405 (!t417) a0_0 a0_1 a0_2 a0_3 a7_0 a7_1 a7_2 a7_3) = some r := H
                                   have A117 := Aside0.mk A1170; clear A1170; have H' := Aside0.mk H; clear H
                                   replace hNB385_386 := NB385_386.out
                                   replace hNB386_385 := NB386_385.out
                                   replace hz385 := zc4 BK385
                                   as_aux_lemma =>
                                    go_wp2_with (first | (go_at_call 16; (with_reducible refine (laws_yIs.calls kj107 t414 t415 a0_3 1 t417 _ A117.out).mono ?_); rintro e w' ⟨rfl, ⟨nd, rfl⟩⟩))
                                    go_meet
                                    case rel => exact ⟨_, (!t417), zu, H', ⟨by have := HJ21.out; have := HJ96.out; have := HJ107.out; first | omega | exact Nat.le_refl _⟩, zk BK385, zk BK386, ⟨zy HB⟩⟩
                                 · replace c116 := Bool.eq_false_iff.mpr c116
                                   subst c116; rw [if_neg (show ¬ (false = true) by decide)] at H
                                   exact absurd (HR_.out.symm.trans (laws_FnIslandsMeasuredOfAll.j3_true _ _ _ _ _ _ _ _ _ _ _ _ _ _ _ _ _ _ _ _ _ _ _ _ _ _ H)) (by decide)
                               case rest =>
                                 (try clear hz385)
                                 clear HC112
                                 obtain ⟨kq, x319_111, rfl, HA, HJ111, BK385, BK386, HB⟩ := hcut
                                 cases kq with
                                 | zero => exact absurd HA.out (by simp [laws_FnIslandsMeasuredOfAll.j3])
                                 | succ kj111 =>
                                   have H := HA.out; clear HA; simp only [laws_FnIslandsMeasuredOfAll.j3] at H
                                   by_cases c120 : x319_111 = true
                                   · subst c120
                                     rw [if_pos rfl] at H
                                     obtain rfl := Option.some.inj H
                                     exact absurd HR_.out (by decide)
                                   · replace c120 := Bool.eq_false_iff.mpr c120
                                     subst c120; rw [if_neg (show ¬ (false = true) by decide)] at H; have HC121 := Aside0.mk H; clear H
                                     as_aux_lemma =>
                                      go_upto_region 20 with (fail)
                                      go_cut [325] from 1 to 0 (fun v325 wc => ∃ (kq : Nat) (x325_120 : Bool), v325 = .bool x325_120 ∧ Aside0 (laws_FnIslandsMeasuredOfAll.j4 kq a1 a2 a3 a4 a5 a6 a8 a9 t387 t388 t393 t399 t400 t401 t405 x325_120 a0_0 a0_1 a0_2 a0_3 a7_0 a7_1 a7_2 a7_3 = some r) ∧ Aside0 (kq ≤ kj111) ∧ Aside0 (wc.heap[gb385]? = some (.cells #[.int .i64 a0_0, .int .i64 a0_1, .int .i64 a0_2, .int .i64 a0_3] 23 (0, 0))) ∧ Aside0 (wc.heap[gb386]? = some (.cells #[.int .i64 a7_0, .int .i64 a7_1, .int .i64 a7_2, .int .i64 a7_3] 23 (0, 0))) ∧ Aside0 (Below w.heap.size w wc))
                                      case first =>
                                        have H := HC121.out; clear HC121
                                        by_cases c122 : t394 = 1
                                        · rw [if_pos c122] at H
                                          have c122b0 : (t394 == 1) = true := beq_iff_eq.mpr c122
                                          have c122b1 : (t394 != 1) = false := bne_eq_false_iff_eq.mpr c122
                                          clear c122
                                          (first | rw [c122b0] | (simp only [i64_w, i32_w]; rw [c122b0]) | skip)
                                          have H' := Aside0.mk H; clear H
                                          as_aux_lemma =>
                                           go_wp2
                                           go_meet
                                           case rel => exact ⟨_, (decide (t393 ≤ 2000)), zu, H', ⟨by have := HJ21.out; have := HJ96.out; have := HJ107.out; have := HJ111.out; first | omega | exact Nat.le_refl _⟩, zk BK385, zk BK386, ⟨zy HB⟩⟩
                                        · rw [if_neg c122] at H
                                          have c122b0 : (t394 == 1) = false := beq_eq_false_iff_ne.mpr c122
                                          have c122b1 : (t394 != 1) = true := bne_iff_ne.mpr c122
                                          (first | rw [c122b0] | (simp only [i64_w, i32_w]; rw [c122b0]) | skip)
                                          have H' := Aside0.mk H; clear H
                                          as_aux_lemma =>
                                           go_wp2
                                           go_meet
                                           case rel => exact ⟨_, (false), zu, H', ⟨by have := HJ21.out; have := HJ96.out; have := HJ107.out; have := HJ111.out; first | omega | exact Nat.le_refl _⟩, zk BK385, zk BK386, ⟨zy HB⟩⟩
                                      case rest =>
                                        (try clear hz385)
                                        clear HC121
                                        obtain ⟨kq, x325_120, rfl, HA, HJ120, BK385, BK386, HB⟩ := hcut
                                        cases kq with
                                        | zero => exact absurd HA.out (by simp [laws_FnIslandsMeasuredOfAll.j4])
                                        | succ kj120 =>
                                          have H := HA.out; clear HA; simp only [laws_FnIslandsMeasuredOfAll.j4] at H
                                          by_cases c123 : x325_120 = true
                                          · subst c123
                                            rw [if_pos rfl] at H; replace H := Option.bind_eq_some_iff.mp H; obtain ⟨⟨t418, t419, t420, t421, t422⟩, A1240, H⟩ := H; (try dsimp only at H); have A124 := Aside0.mk A1240; clear A1240; have HC125 := Aside0.mk H; clear H
                                            replace hNB385_386 := NB385_386.out
                                            replace hNB386_385 := NB386_385.out
                                            replace hz385 := zc4 BK385
                                            as_aux_lemma =>
                                             go_upto_region 22 with (first | ((with_reducible refine gate_callee (f := 17) rfl ?_); refine zG (some 333) Tryd.func17 #[.int .i64 a0_0, .int .i64 a0_1, .int .i64 t387, .int .i64 t393] ?_; (with_reducible refine (impl_StepsForIsland.calls kj120 a0_0 a0_1 t387 t393 t418 t419 t420 t421 t422 _ A124.out).mono ?_); rintro e w128 ⟨rfl, hb⟩; refine ⟨_, rfl, ?_⟩; replace BK385 := zb BK385 hb; replace BK386 := zb BK386 hb; replace HB := zh HB hb; clear hb))
                                             (try simp only [Act.put, List.setIfInBounds_toArray, List.set_cons_zero, List.set_cons_succ])
                                             go_cut [356] from 326 to 338 (fun v356 wc => ∃ (kq : Nat) (x356_124 : Bool), v356 = .bool x356_124 ∧ Aside0 (laws_FnIslandsMeasuredOfAll.j5 kq a1 a2 a3 a4 a5 a6 a8 a9 t387 t388 t399 t400 t401 t405 x356_124 a0_0 a0_1 a0_2 a0_3 a7_0 a7_1 a7_2 a7_3 = some r) ∧ Aside0 (kq ≤ kj120) ∧ Aside0 (wc.heap[gb385]? = some (.cells #[.int .i64 a0_0, .int .i64 a0_1, .int .i64 a0_2, .int .i64 a0_3] 23 (0, 0))) ∧ Aside0 (wc.heap[gb386]? = some (.cells #[.int .i64 a7_0, .int .i64 a7_1, .int .i64 a7_2, .int .i64 a7_3] 23 (0, 0))) ∧ Aside0 (Below w.heap.size w wc))
                                             case first =>
                                               have H := HC125.out; clear HC125
                                               by_cases c129 : t422 = true
                                               · subst c129
                                                 rw [if_pos rfl] at H; replace H := Option.bind_eq_some_iff.mp H; obtain ⟨t423, A1300, H⟩ := H; (try dsimp only at H); have A130 := Aside0.mk A1300; clear A1300
                                                 by_cases c131 : t423 = true
                                                 · subst c131
                                                   rw [if_pos rfl] at H; replace H := Option.bind_eq_some_iff.mp H; obtain ⟨t424, A1320, H⟩ := H
                                                   replace H : (laws_FnIslandsMeasuredOfAll.j5 kj120 a1 a2 a3 a4 a5 a6 a8 a9 t387 t388 t399 t400 t401 t405 (!t424) a0_0 a0_1 a0_2 a0_3 a7_0 a7_1 a7_2 a7_3) = some r := H
                                                   have A132 := Aside0.mk A1320; clear A1320; have H' := Aside0.mk H; clear H
                                                   replace hNB385_386 := NB385_386.out
                                                   replace hNB386_385 := NB386_385.out
                                                   replace hz385 := zc4 BK385
                                                   as_aux_lemma =>
                                                    go_wp2_with (first | (go_at_call 16; (with_reducible refine (laws_yIs.calls kj120 t418 t419 a0_2 1 true _ A130.out).mono ?_); rintro e w' ⟨rfl, ⟨nd, rfl⟩⟩) | (go_at_call 16; (with_reducible refine (laws_yIs.calls kj120 t420 t421 a0_3 1 t424 _ A132.out).mono ?_); rintro e w' ⟨rfl, ⟨nd, rfl⟩⟩))
                                                    go_meet
                                                    case rel => exact ⟨_, (!t424), zu, H', ⟨by have := HJ21.out; have := HJ96.out; have := HJ107.out; have := HJ111.out; have := HJ120.out; first | omega | exact Nat.le_refl _⟩, zk BK385, zk BK386, ⟨zy HB⟩⟩
                                                 · replace c131 := Bool.eq_false_iff.mpr c131
                                                   subst c131; rw [if_neg (show ¬ (false = true) by decide)] at H
                                                   exact absurd (HR_.out.symm.trans (laws_FnIslandsMeasuredOfAll.j5_true _ _ _ _ _ _ _ _ _ _ _ _ _ _ _ _ _ _ _ _ _ _ _ _ H)) (by decide)
                                               · replace c129 := Bool.eq_false_iff.mpr c129
                                                 subst c129; rw [if_neg (show ¬ (false = true) by decide)] at H
                                                 exact absurd (HR_.out.symm.trans (laws_FnIslandsMeasuredOfAll.j5_true _ _ _ _ _ _ _ _ _ _ _ _ _ _ _ _ _ _ _ _ _ _ _ _ H)) (by decide)
                                             case rest =>
                                               (try clear hz385)
                                               clear HC125
                                               obtain ⟨kq, x356_124, rfl, HA, HJ124, BK385, BK386, HB⟩ := hcut
                                               cases kq with
                                               | zero => exact absurd HA.out (by simp [laws_FnIslandsMeasuredOfAll.j5])
                                               | succ kj124 =>
                                                 have H := HA.out; clear HA; simp only [laws_FnIslandsMeasuredOfAll.j5] at H
                                                 by_cases c137 : x356_124 = true
                                                 · subst c137
                                                   rw [if_pos rfl] at H
                                                   obtain rfl := Option.some.inj H
                                                   exact absurd HR_.out (by decide)
                                                 · replace c137 := Bool.eq_false_iff.mpr c137
                                                   subst c137; rw [if_neg (show ¬ (false = true) by decide)] at H; replace H := Option.bind_eq_some_iff.mp H; obtain ⟨⟨t425, t426, t427, t428, t429⟩, A1380, H⟩ := H; (try dsimp only at H); have A138 := Aside0.mk A1380; clear A1380
                                                   by_cases c139 : t429 = true
                                                   · subst c139
                                                     rw [if_pos rfl] at H
                                                     by_cases c140 : (!(t425 == a0_0) || (!(t426 == a0_1) || (!(t427 == a0_2) || (!(t428 == a0_3))))) = true
                                                     · rw [if_pos c140] at H
                                                       have c140b0 : (!(t425 == a0_0) || (!(t426 == a0_1) || (!(t427 == a0_2) || (!(t428 == a0_3))))) = true := c140
                                                       clear c140
                                                       obtain rfl := Option.some.inj H
                                                       exact absurd HR_.out (by decide)
                                                     · rw [if_neg c140] at H
                                                       have c140b0 : (!(t425 == a0_0) || (!(t426 == a0_1) || (!(t427 == a0_2) || (!(t428 == a0_3))))) = false := by simpa using c140
                                                       clear c140; have H' := Aside0.mk H; clear H
                                                       as_aux_lemma =>
                                                        go_wp2_with (first | ((with_reducible refine gate_callee (f := 18) rfl ?_); refine zG (some 359) Tryd.func18 #[.string t405] ?_; (with_reducible refine (impl_ParseIsland.calls t405 t425 t426 t427 t428 true _ (LaidQ.below HL_.out (zy HB)) A138.out).mono ?_); rintro e w141 ⟨rfl, hb⟩; refine ⟨_, rfl, ?_⟩; replace BK385 := zb BK385 hb; replace BK386 := zb BK386 hb; replace HB := zh HB hb; clear hb) | ((with_reducible refine gate_dst (N := 51) rfl ?_); refine zE 51 #[.int .i64 0, .int .i64 0, .int .i64 0, .int .i64 0] 23 ?_; intro gb430 hg w142 hbox hb; have BK430 := Aside0.mk (hbox); have GW430 := zg HB hg; have GE430 := GW430; have NB385_430 := zl BK385 hg; have NB430_385 := zr BK385 hg; have NB386_430 := zl BK386 hg; have NB430_386 := zr BK386 hg; replace BK385 := zb BK385 hb; replace BK386 := zb BK386 hb; replace HB := zh HB hb; clear hb hbox hg; replace hNB430_385 := NB430_385.out; replace hNB385_430 := NB385_430.out; replace hNB430_386 := NB430_386.out; replace hNB386_430 := NB386_430.out; replace hz430 := zc4 BK430; replace hNB385_386 := NB385_386.out; replace hNB386_385 := NB386_385.out; replace hz385 := zc4 BK385))
                                                        go_meet
                                                        case rel => exact ⟨_, H', ⟨by have := HJ21.out; have := HJ96.out; have := HJ107.out; have := HJ111.out; have := HJ120.out; have := HJ124.out; first | omega | exact Nat.le_refl _⟩, zk BK385, zk BK386, ⟨zy HB⟩⟩
                                                   · replace c139 := Bool.eq_false_iff.mpr c139
                                                     subst c139; rw [if_neg (show ¬ (false = true) by decide)] at H
                                                     obtain rfl := Option.some.inj H
                                                     exact absurd HR_.out (by decide)
                                          · replace c123 := Bool.eq_false_iff.mpr c123
                                            subst c123; rw [if_neg (show ¬ (false = true) by decide)] at H; replace H := Option.bind_eq_some_iff.mp H; obtain ⟨⟨t431, t432, t433, t434, t435⟩, A1480, H⟩ := H; (try dsimp only at H); have A148 := Aside0.mk A1480; clear A1480
                                            by_cases c149 : t435 = true
                                            · subst c149
                                              rw [if_pos rfl] at H
                                              by_cases c150 : (!(t431 == a0_0) || (!(t432 == a0_1) || (!(t433 == a0_2) || (!(t434 == a0_3))))) = true
                                              · rw [if_pos c150] at H
                                                have c150b0 : (!(t431 == a0_0) || (!(t432 == a0_1) || (!(t433 == a0_2) || (!(t434 == a0_3))))) = true := c150
                                                clear c150
                                                obtain rfl := Option.some.inj H
                                                exact absurd HR_.out (by decide)
                                              · rw [if_neg c150] at H
                                                have c150b0 : (!(t431 == a0_0) || (!(t432 == a0_1) || (!(t433 == a0_2) || (!(t434 == a0_3))))) = false := by simpa using c150
                                                clear c150; have H' := Aside0.mk H; clear H
                                                as_aux_lemma =>
                                                 go_wp2_with (first | ((with_reducible refine gate_callee (f := 18) rfl ?_); refine zG (some 359) Tryd.func18 #[.string t405] ?_; (with_reducible refine (impl_ParseIsland.calls t405 t431 t432 t433 t434 true _ (LaidQ.below HL_.out (zy HB)) A148.out).mono ?_); rintro e w151 ⟨rfl, hb⟩; refine ⟨_, rfl, ?_⟩; replace BK385 := zb BK385 hb; replace BK386 := zb BK386 hb; replace HB := zh HB hb; clear hb) | ((with_reducible refine gate_dst (N := 51) rfl ?_); refine zE 51 #[.int .i64 0, .int .i64 0, .int .i64 0, .int .i64 0] 23 ?_; intro gb436 hg w152 hbox hb; have BK436 := Aside0.mk (hbox); have GW436 := zg HB hg; have GE436 := GW436; have NB385_436 := zl BK385 hg; have NB436_385 := zr BK385 hg; have NB386_436 := zl BK386 hg; have NB436_386 := zr BK386 hg; replace BK385 := zb BK385 hb; replace BK386 := zb BK386 hb; replace HB := zh HB hb; clear hb hbox hg; replace hNB436_385 := NB436_385.out; replace hNB385_436 := NB385_436.out; replace hNB436_386 := NB436_386.out; replace hNB386_436 := NB386_436.out; replace hz436 := zc4 BK436; replace hNB385_386 := NB385_386.out; replace hNB386_385 := NB386_385.out; replace hz385 := zc4 BK385))
                                                 go_meet
                                                 case rel => exact ⟨_, H', ⟨by have := HJ21.out; have := HJ96.out; have := HJ107.out; have := HJ111.out; have := HJ120.out; first | omega | exact Nat.le_refl _⟩, zk BK385, zk BK386, ⟨zy HB⟩⟩
                                            · replace c149 := Bool.eq_false_iff.mpr c149
                                              subst c149; rw [if_neg (show ¬ (false = true) by decide)] at H
                                              obtain rfl := Option.some.inj H
                                              exact absurd HR_.out (by decide)
                            · replace c110 := Bool.eq_false_iff.mpr c110
                              subst c110; rw [if_neg (show ¬ (false = true) by decide)] at H; replace H := Option.bind_eq_some_iff.mp H; obtain ⟨⟨t437, t438, t439, t440, t441⟩, A1580, H⟩ := H; (try dsimp only at H); have A158 := Aside0.mk A1580; clear A1580
                              by_cases c159 : t441 = true
                              · subst c159
                                rw [if_pos rfl] at H
                                by_cases c160 : (!(t437 == a0_0) || (!(t438 == a0_1) || (!(t439 == a0_2) || (!(t440 == a0_3))))) = true
                                · rw [if_pos c160] at H
                                  have c160b0 : (!(t437 == a0_0) || (!(t438 == a0_1) || (!(t439 == a0_2) || (!(t440 == a0_3))))) = true := c160
                                  clear c160
                                  obtain rfl := Option.some.inj H
                                  exact absurd HR_.out (by decide)
                                · rw [if_neg c160] at H
                                  have c160b0 : (!(t437 == a0_0) || (!(t438 == a0_1) || (!(t439 == a0_2) || (!(t440 == a0_3))))) = false := by simpa using c160
                                  clear c160; have H' := Aside0.mk H; clear H
                                  as_aux_lemma =>
                                   go_wp2_with (first | ((with_reducible refine gate_callee (f := 18) rfl ?_); refine zG (some 359) Tryd.func18 #[.string t405] ?_; (with_reducible refine (impl_ParseIsland.calls t405 t437 t438 t439 t440 true _ (LaidQ.below HL_.out (zy HB)) A158.out).mono ?_); rintro e w161 ⟨rfl, hb⟩; refine ⟨_, rfl, ?_⟩; replace BK385 := zb BK385 hb; replace BK386 := zb BK386 hb; replace HB := zh HB hb; clear hb) | ((with_reducible refine gate_dst (N := 51) rfl ?_); refine zE 51 #[.int .i64 0, .int .i64 0, .int .i64 0, .int .i64 0] 23 ?_; intro gb442 hg w162 hbox hb; have BK442 := Aside0.mk (hbox); have GW442 := zg HB hg; have GE442 := GW442; have NB385_442 := zl BK385 hg; have NB442_385 := zr BK385 hg; have NB386_442 := zl BK386 hg; have NB442_386 := zr BK386 hg; replace BK385 := zb BK385 hb; replace BK386 := zb BK386 hb; replace HB := zh HB hb; clear hb hbox hg; replace hNB442_385 := NB442_385.out; replace hNB385_442 := NB385_442.out; replace hNB442_386 := NB442_386.out; replace hNB386_442 := NB386_442.out; replace hz442 := zc4 BK442; replace hNB385_386 := NB385_386.out; replace hNB386_385 := NB386_385.out; replace hz385 := zc4 BK385))
                                   go_meet
                                   case rel => exact ⟨_, H', ⟨by have := HJ21.out; have := HJ96.out; have := HJ107.out; first | omega | exact Nat.le_refl _⟩, zk BK385, zk BK386, ⟨zy HB⟩⟩
                              · replace c159 := Bool.eq_false_iff.mpr c159
                                subst c159; rw [if_neg (show ¬ (false = true) by decide)] at H
                                obtain rfl := Option.some.inj H
                                exact absurd HR_.out (by decide)
              · replace c96 := Bool.eq_false_iff.mpr c96
                subst c96; rw [if_neg (show ¬ (false = true) by decide)] at H; have H' := Aside0.mk H; clear H
                as_aux_lemma =>
                 go_wp2
                 go_meet
                 case rel => exact ⟨_, H', ⟨by have := HJ21.out; first | omega | exact Nat.le_refl _⟩, zk BK385, zk BK386, ⟨zy HB⟩⟩
            case rest =>
              (try clear hz385); (try clear hz430); (try clear hz436); (try clear hz442)
              clear HC95
              obtain ⟨kq, HA, HJ94, BK385, BK386, HB⟩ := hcut
              cases kq with
              | zero => exact absurd HA.out (by simp [laws_FnIslandsMeasuredOfAll.j6])
              | succ kj94 =>
                have H := HA.out; clear HA; simp only [laws_FnIslandsMeasuredOfAll.j6] at H; have HC168 := Aside0.mk H; clear H
                as_aux_lemma =>
                 go_upto_if 369 with (fail)
                 go_cut [] from 369 to 369 (fun wc => ∃ (kq : Nat), Aside0 (laws_FnIslandsMeasuredOfAll.j7 kq a1 a2 a3 a4 a5 a6 a8 a9 a7_0 a7_1 a7_2 a7_3 = some r) ∧ Aside0 (kq ≤ kj94) ∧ Aside0 (wc.heap[gb386]? = some (.cells #[.int .i64 a7_0, .int .i64 a7_1, .int .i64 a7_2, .int .i64 a7_3] 23 (0, 0))) ∧ Aside0 (Below w.heap.size w wc))
                 case first =>
                   have H := HC168.out; clear HC168
                   by_cases c169 : t401 = true
                   · subst c169
                     rw [if_pos rfl] at H; replace H := Option.bind_eq_some_iff.mp H; obtain ⟨⟨t444, t445, t446⟩, A1700, H⟩ := H; (try dsimp only at H); have A170 := Aside0.mk A1700; clear A1700
                     by_cases c171 : t446 = true
                     · subst c171
                       rw [if_pos rfl] at H; replace H := Option.bind_eq_some_iff.mp H; obtain ⟨t447, A1720, H⟩ := H; (try dsimp only at H); have A172 := Aside0.mk A1720; clear A1720
                       by_cases c173 : t447 = true
                       · subst c173
                         rw [if_pos rfl] at H
                         by_cases c174 : t399 < 1
                         · rw [if_pos c174] at H
                           have c174b0 : decide (t399 < 1) = true := decide_eq_true c174; clear c174
                           (first | rw [c174b0] | (simp only [i64_w, i32_w]; rw [c174b0]) | skip)
                           obtain rfl := Option.some.inj H
                           exact absurd HR_.out (by decide)
                         · rw [if_neg c174] at H
                           have c174b0 : decide (t399 < 1) = false := decide_eq_false c174; clear c174
                           (first | rw [c174b0] | (simp only [i64_w, i32_w]; rw [c174b0]) | skip)
                           by_cases c175 : (wrap64 ((wrap64 ((wrap64 (t444 * t388)) - (wrap64 (t387 * t445)))) * t400)) = (wrap64 ((wrap64 (t399 * t445)) * t388))
                           · rw [if_pos c175] at H
                             have c175b0 : ((wrap64 ((wrap64 ((wrap64 (t444 * t388)) - (wrap64 (t387 * t445)))) * t400)) == (wrap64 ((wrap64 (t399 * t445)) * t388))) = true := beq_iff_eq.mpr c175
                             have c175b1 : ((wrap64 ((wrap64 ((wrap64 (t444 * t388)) - (wrap64 (t387 * t445)))) * t400)) != (wrap64 ((wrap64 (t399 * t445)) * t388))) = false := bne_eq_false_iff_eq.mpr c175
                             clear c175; have H' := Aside0.mk H; clear H
                             replace hNB385_386 := NB385_386.out
                             replace hNB386_385 := NB386_385.out
                             replace hz385 := zc4 BK385
                             as_aux_lemma =>
                              go_wp2_with (first | ((with_reducible refine gate_dst (N := 53) rfl ?_); refine zE 53 #[.int .i64 0, .int .i64 0, .int .i64 0, .int .i64 0] 23 ?_; intro gb443 hg w178 hbox hb; have BK443 := Aside0.mk (hbox); have GW443 := zg HB hg; have GE443 := GW443; have NB385_443 := zl BK385 hg; have NB443_385 := zr BK385 hg; have NB386_443 := zl BK386 hg; have NB443_386 := zr BK386 hg; replace BK385 := zb BK385 hb; replace BK386 := zb BK386 hb; replace HB := zh HB hb; clear hb hbox hg; replace hNB443_385 := NB443_385.out; replace hNB385_443 := NB385_443.out; replace hNB443_386 := NB443_386.out; replace hNB386_443 := NB386_443.out; replace hz443 := zc4 BK443) | ((with_reducible refine gate_callee (f := 4) rfl ?_); refine zG (some 377) Tryd.func4 #[.agg #[.int .i64 a0_0, .int .i64 a0_1, .int .i64 a0_2, .int .i64 (wrap64 (a0_3 - 1))]] ?_; (with_reducible refine (impl_IslandHeight.calls kj94 a0_0 a0_1 a0_2 (wrap64 (a0_3 - 1)) t444 t445 true _ A170.out).mono ?_); rintro e w182 ⟨rfl, hb⟩; refine ⟨_, rfl, ?_⟩; have n2_ := Aside0.mk (blk_below (g := gb443) (o := .cells #[.int .i64 a0_0, .int .i64 a0_1, .int .i64 a0_2, .int .i64 (wrap64 (a0_3 - 1))] 23 (0, 0)) (zw BK443) hb); replace BK385 := zb BK385 hb; replace BK386 := zb BK386 hb; replace HB := zh HB hb; clear BK443; have BK443 := n2_; clear n2_; clear hb) | (go_at_call 14; (with_reducible refine (laws_yLow.calls kj94 t399 t400 true _ A172.out).mono ?_); rintro e w' ⟨rfl, ⟨nd, rfl⟩⟩))
                              go_meet
                              case rel => exact ⟨_, H', ⟨by have := HJ21.out; have := HJ94.out; first | omega | exact Nat.le_refl _⟩, zk BK386, ⟨zy HB⟩⟩
                           · rw [if_neg c175] at H
                             have c175b0 : ((wrap64 ((wrap64 ((wrap64 (t444 * t388)) - (wrap64 (t387 * t445)))) * t400)) == (wrap64 ((wrap64 (t399 * t445)) * t388))) = false := beq_eq_false_iff_ne.mpr c175
                             have c175b1 : ((wrap64 ((wrap64 ((wrap64 (t444 * t388)) - (wrap64 (t387 * t445)))) * t400)) != (wrap64 ((wrap64 (t399 * t445)) * t388))) = true := bne_iff_ne.mpr c175
                             obtain rfl := Option.some.inj H
                             exact absurd HR_.out (by decide)
                       · replace c173 := Bool.eq_false_iff.mpr c173
                         subst c173; rw [if_neg (show ¬ (false = true) by decide)] at H
                         obtain rfl := Option.some.inj H
                         exact absurd HR_.out (by decide)
                     · replace c171 := Bool.eq_false_iff.mpr c171
                       subst c171; rw [if_neg (show ¬ (false = true) by decide)] at H
                       obtain rfl := Option.some.inj H
                       exact absurd HR_.out (by decide)
                   · replace c169 := Bool.eq_false_iff.mpr c169
                     subst c169; rw [if_neg (show ¬ (false = true) by decide)] at H; have H' := Aside0.mk H; clear H
                     as_aux_lemma =>
                      go_wp2
                      go_meet
                      case rel => exact ⟨_, H', ⟨by have := HJ21.out; have := HJ94.out; first | omega | exact Nat.le_refl _⟩, zk BK386, ⟨zy HB⟩⟩
                 case rest =>
                   (try clear hz385); (try clear hz430); (try clear hz436); (try clear hz442); (try clear hz443)
                   clear HC168
                   obtain ⟨kq, HA, HJ167, BK386, HB⟩ := hcut
                   cases kq with
                   | zero => exact absurd HA.out (by simp [laws_FnIslandsMeasuredOfAll.j7])
                   | succ kj167 =>
                     have H := HA.out; clear HA; simp only [laws_FnIslandsMeasuredOfAll.j7] at H; replace H := Option.bind_eq_some_iff.mp H; obtain ⟨⟨t448, t449, t450⟩, A1830, H⟩ := H; (try dsimp only at H); have A183 := Aside0.mk A1830; clear A1830; replace H := Option.bind_eq_some_iff.mp H; obtain ⟨⟨t451, t452, t453⟩, A1840, H⟩ := H; (try dsimp only at H); have A184 := Aside0.mk A1840; clear A1840; replace H := Option.bind_eq_some_iff.mp H; obtain ⟨⟨t454, t455, t456, t457, t458⟩, A1850, H⟩ := H; (try dsimp only at H); have A185 := Aside0.mk A1850; clear A1850; replace H := Option.bind_eq_some_iff.mp H; obtain ⟨⟨t459, t460, t461, t462, t463⟩, A1860, H⟩ := H; (try dsimp only at H); have A186 := Aside0.mk A1860; clear A1860; replace H := Option.bind_eq_some_iff.mp H; obtain ⟨⟨t464, t465⟩, A1870, H⟩ := H; (try dsimp only at H); have A187 := Aside0.mk A1870; clear A1870; replace H := Option.bind_eq_some_iff.mp H; obtain ⟨⟨t468, t469⟩, A1880, H⟩ := H; (try dsimp only at H); have A188 := Aside0.mk A1880; clear A1880; replace H := Option.bind_eq_some_iff.mp H; obtain ⟨⟨t472, t473, t474, t475, t476⟩, A1890, H⟩ := H; (try dsimp only at H); have A189 := Aside0.mk A1890; clear A1890; replace H := Option.bind_eq_some_iff.mp H; obtain ⟨⟨t478, t479, t480, t481, t482⟩, A1900, H⟩ := H; (try dsimp only at H); have A190 := Aside0.mk A1900; clear A1900; replace H := Option.bind_eq_some_iff.mp H; obtain ⟨⟨t484, t485, t486, t487, t488⟩, A1910, H⟩ := H; (try dsimp only at H); have A191 := Aside0.mk A1910; clear A1910; replace H := Option.bind_eq_some_iff.mp H; obtain ⟨⟨t490, t491, t492, t493, t494⟩, A1920, H⟩ := H; (try dsimp only at H); have A192 := Aside0.mk A1920; clear A1920; have HC193 := Aside0.mk H; clear H
                     as_aux_lemma =>
                      go_upto_region 43 with (first | ((with_reducible refine gate_callee (f := 15) rfl ?_); refine zG (some 415) Tryd.func15 #[.int .i64 a1, .int .i64 a2, .int .i64 a3, .int .i64 a4] ?_; (with_reducible refine (impl_SecondStep.calls kj167 a1 a2 a3 a4 t448 t449 t450 _ A183.out).mono ?_); rintro e w194 ⟨rfl, hb⟩; refine ⟨_, rfl, ?_⟩; replace BK386 := zb BK386 hb; replace HB := zh HB hb; clear hb) | ((with_reducible refine gate_callee (f := 19) rfl ?_); refine zG (some 424) Tryd.func19 #[.int .i64 a1, .int .i64 a2, .int .i64 a3, .int .i64 a4] ?_; (with_reducible refine (spec_SecondStep.calls kj167 a1 a2 a3 a4 t451 t452 t453 _ A184.out).mono ?_); rintro e w195 ⟨rfl, hb⟩; refine ⟨_, rfl, ?_⟩; replace BK386 := zb BK386 hb; replace HB := zh HB hb; clear hb) | ((with_reducible refine gate_callee (f := 17) rfl ?_); refine zG (some 433) Tryd.func17 #[.int .i64 a1, .int .i64 a2, .int .i64 a3, .int .i64 a4] ?_; (with_reducible refine (impl_StepsForIsland.calls kj167 a1 a2 a3 a4 t454 t455 t456 t457 t458 _ A185.out).mono ?_); rintro e w196 ⟨rfl, hb⟩; refine ⟨_, rfl, ?_⟩; replace BK386 := zb BK386 hb; replace HB := zh HB hb; clear hb) | ((with_reducible refine gate_callee (f := 20) rfl ?_); refine zG (some 444) Tryd.func20 #[.int .i64 a1, .int .i64 a2, .int .i64 a3, .int .i64 a4] ?_; (with_reducible refine (spec_StepsForIsland.calls kj167 a1 a2 a3 a4 t459 t460 t461 t462 t463 _ A186.out).mono ?_); rintro e w197 ⟨rfl, hb⟩; refine ⟨_, rfl, ?_⟩; replace BK386 := zb BK386 hb; replace HB := zh HB hb; clear hb) | ((with_reducible refine gate_callee (f := 21) rfl ?_); refine zG (some 453) Tryd.func21 #[.int .i64 a5, .int .i64 a6] ?_; (with_reducible refine (impl_WholeIslands.calls kj167 a5 a6 t464 t465 _ A187.out).mono ?_); rintro e w198 ⟨v466, rfl, ho0, hb⟩; refine ⟨_, rfl, ?_⟩; have HO467 := Aside0.mk (Kd.S_lower ho0 (below_size (zy HB))); replace BK386 := zb BK386 hb; replace HB := zh HB hb; clear hb ho0) | ((with_reducible refine gate_callee (f := 22) rfl ?_); refine zG (some 459) Tryd.func22 #[.int .i64 a5, .int .i64 a6] ?_; (with_reducible refine (spec_WholeIslands.calls kj167 a5 a6 t468 t469 _ A188.out).mono ?_); rintro e w199 ⟨v470, rfl, ho0, hb⟩; refine ⟨_, rfl, ?_⟩; have n0_ := Aside0.mk (Kd.S_elder' zO3_2 (Kd.S_base ho0) hb); have HO471 := Aside0.mk (Kd.S_lower (Kd.S_new' ho0 (Kd.S_lt zO3_2)) (below_size (zy HB))); replace BK386 := zb BK386 hb; replace HB := zh HB hb; clear HO467; have HO467 := n0_; clear n0_; clear hb ho0; replace hz386 := zc4 BK386) | ((with_reducible refine gate_callee (f := 23) rfl ?_); refine zG (some 465) Tryd.func23 #[.agg #[.int .i64 a7_0, .int .i64 a7_1, .int .i64 a7_2, .int .i64 a7_3], .int .i64 a8] ?_; (with_reducible refine (impl_TimesIsland.calls a7_0 a7_1 a7_2 a7_3 a8 t472 t473 t474 t475 t476 _ A189.out).mono ?_); rintro e w201 ⟨rfl, hb⟩; refine ⟨_, rfl, ?_⟩; have n0_ := Aside0.mk (Kd.S_below zO3_2 hb); have n1_ := Aside0.mk (Kd.S_below zO3_3 hb); replace BK386 := zb BK386 hb; replace HB := zh HB hb; clear HO467; have HO467 := n0_; clear n0_; clear HO471; have HO471 := n1_; clear n1_; clear hb) | ((with_reducible refine gate_dst (N := 77) rfl ?_); refine zE 77 #[.int .i64 0, .int .i64 0, .int .i64 0, .int .i64 0] 23 ?_; intro gb477 hg w202 hbox hb; have n0_ := Aside0.mk (Kd.S_below zO3_2 hb); have n1_ := Aside0.mk (Kd.S_below zO3_3 hb); have BK477 := Aside0.mk (hbox); have GW477 := zg HB hg; have GE477 := GW477; have NB386_477 := zl BK386 hg; have NB477_386 := zr BK386 hg; replace BK386 := zb BK386 hb; replace HB := zh HB hb; clear HO467; have HO467 := n0_; clear n0_; clear HO471; have HO471 := n1_; clear n1_; clear hb hbox hg; replace hNB477_386 := NB477_386.out; replace hNB386_477 := NB386_477.out; replace hz477 := zc4 BK477; replace hz386 := zc4 BK386) | ((with_reducible refine gate_callee (f := 24) rfl ?_); refine zG (some 471) Tryd.func24 #[.agg #[.int .i64 a7_0, .int .i64 a7_1, .int .i64 a7_2, .int .i64 a7_3], .int .i64 a8] ?_; (with_reducible refine (spec_TimesIsland.calls kj167 a7_0 a7_1 a7_2 a7_3 a8 t478 t479 t480 t481 t482 _ A190.out).mono ?_); rintro e w206 ⟨rfl, hb⟩; refine ⟨_, rfl, ?_⟩; have n0_ := Aside0.mk (Kd.S_below (by (with_reducible repeat (first | apply Kd.S_alloc | apply Kd.S_drewN | apply Kd.S_drew)); exact (Kd.S_mono (Kd.S_far (p := ⟨gb477, 3, none⟩) (Kd.S_far (p := ⟨gb477, 2, none⟩) (Kd.S_far (p := ⟨gb477, 1, none⟩) (Kd.S_far (p := ⟨gb477, 0, none⟩) (Kd.S_types HO467.out BK477.out (by decide)) (fun _ hk => hk.2) (.int .i64 t472)) (fun _ hk => hk.2) (.int .i64 t473)) (fun _ hk => hk.2) (.int .i64 t474)) (fun _ hk => hk.2) (.int .i64 t475)) (fun _ h_ => h_.1))) hb); have n1_ := Aside0.mk (Kd.S_below (by (with_reducible repeat (first | apply Kd.S_alloc | apply Kd.S_drewN | apply Kd.S_drew)); exact (Kd.S_mono (Kd.S_far (p := ⟨gb477, 3, none⟩) (Kd.S_far (p := ⟨gb477, 2, none⟩) (Kd.S_far (p := ⟨gb477, 1, none⟩) (Kd.S_far (p := ⟨gb477, 0, none⟩) (Kd.S_types HO471.out BK477.out (by decide)) (fun _ hk => hk.2) (.int .i64 t472)) (fun _ hk => hk.2) (.int .i64 t473)) (fun _ hk => hk.2) (.int .i64 t474)) (fun _ hk => hk.2) (.int .i64 t475)) (fun _ h_ => h_.1))) hb); have n3_ := Aside0.mk (blk_below (g := gb477) (o := .cells #[.int .i64 t472, .int .i64 t473, .int .i64 t474, .int .i64 t475] 23 (0, 0)) (zw BK477) hb); replace BK386 := zb BK386 hb; replace HB := zh HB hb; clear HO467; have HO467 := n0_; clear n0_; clear HO471; have HO471 := n1_; clear n1_; clear BK477; have BK477 := n3_; clear n3_; clear hb) | ((with_reducible refine gate_dst (N := 79) rfl ?_); refine zE 79 #[.int .i64 0, .int .i64 0, .int .i64 0, .int .i64 0] 23 ?_; intro gb483 hg w207 hbox hb; have n0_ := Aside0.mk (Kd.S_below zO3_2 hb); have n1_ := Aside0.mk (Kd.S_below zO3_3 hb); have BK483 := Aside0.mk (hbox); have GW483 := zg HB hg; have GE483 := GW483; have NB386_483 := zl BK386 hg; have NB483_386 := zr BK386 hg; have NB477_483 := zl BK477 hg; have NB483_477 := zr BK477 hg; replace BK386 := zb BK386 hb; replace BK477 := zb BK477 hb; replace HB := zh HB hb; clear HO467; have HO467 := n0_; clear n0_; clear HO471; have HO471 := n1_; clear n1_; clear hb hbox hg; replace hNB483_386 := NB483_386.out; replace hNB386_483 := NB386_483.out; replace hNB483_477 := NB483_477.out; replace hNB477_483 := NB477_483.out; replace hz483 := zc4 BK483) | ((with_reducible refine gate_callee (f := 18) rfl ?_); refine zG (some 476) Tryd.func18 #[.string a9] ?_; (with_reducible refine (impl_ParseIsland.calls a9 t484 t485 t486 t487 t488 _ (LaidQ.below HL_.out (zy HB)) A191.out).mono ?_); rintro e w211 ⟨rfl, hb⟩; refine ⟨_, rfl, ?_⟩; have n0_ := Aside0.mk (Kd.S_below (by (with_reducible repeat (first | apply Kd.S_alloc | apply Kd.S_drewN | apply Kd.S_drew)); exact (Kd.S_mono (Kd.S_far (p := ⟨gb483, 3, none⟩) (Kd.S_far (p := ⟨gb483, 2, none⟩) (Kd.S_far (p := ⟨gb483, 1, none⟩) (Kd.S_far (p := ⟨gb483, 0, none⟩) (Kd.S_types HO467.out BK483.out (by decide)) (fun _ hk => hk.2) (.int .i64 t478)) (fun _ hk => hk.2) (.int .i64 t479)) (fun _ hk => hk.2) (.int .i64 t480)) (fun _ hk => hk.2) (.int .i64 t481)) (fun _ h_ => h_.1))) hb); have n1_ := Aside0.mk (Kd.S_below (by (with_reducible repeat (first | apply Kd.S_alloc | apply Kd.S_drewN | apply Kd.S_drew)); exact (Kd.S_mono (Kd.S_far (p := ⟨gb483, 3, none⟩) (Kd.S_far (p := ⟨gb483, 2, none⟩) (Kd.S_far (p := ⟨gb483, 1, none⟩) (Kd.S_far (p := ⟨gb483, 0, none⟩) (Kd.S_types HO471.out BK483.out (by decide)) (fun _ hk => hk.2) (.int .i64 t478)) (fun _ hk => hk.2) (.int .i64 t479)) (fun _ hk => hk.2) (.int .i64 t480)) (fun _ hk => hk.2) (.int .i64 t481)) (fun _ h_ => h_.1))) hb); have n4_ := Aside0.mk (blk_below (g := gb483) (o := .cells #[.int .i64 t478, .int .i64 t479, .int .i64 t480, .int .i64 t481] 23 (0, 0)) (zw BK483) hb); replace BK386 := zb BK386 hb; replace BK477 := zb BK477 hb; replace HB := zh HB hb; clear HO467; have HO467 := n0_; clear n0_; clear HO471; have HO471 := n1_; clear n1_; clear BK483; have BK483 := n4_; clear n4_; clear hb) | ((with_reducible refine gate_dst (N := 81) rfl ?_); refine zE 81 #[.int .i64 0, .int .i64 0, .int .i64 0, .int .i64 0] 23 ?_; intro gb489 hg w212 hbox hb; have n0_ := Aside0.mk (Kd.S_below zO3_2 hb); have n1_ := Aside0.mk (Kd.S_below zO3_3 hb); have BK489 := Aside0.mk (hbox); have GW489 := zg HB hg; have GE489 := GW489; have NB386_489 := zl BK386 hg; have NB489_386 := zr BK386 hg; have NB477_489 := zl BK477 hg; have NB489_477 := zr BK477 hg; have NB483_489 := zl BK483 hg; have NB489_483 := zr BK483 hg; replace BK386 := zb BK386 hb; replace BK477 := zb BK477 hb; replace BK483 := zb BK483 hb; replace HB := zh HB hb; clear HO467; have HO467 := n0_; clear n0_; clear HO471; have HO471 := n1_; clear n1_; clear hb hbox hg; replace hNB489_386 := NB489_386.out; replace hNB386_489 := NB386_489.out; replace hNB489_477 := NB489_477.out; replace hNB477_489 := NB477_489.out; replace hNB489_483 := NB489_483.out; replace hNB483_489 := NB483_489.out; replace hz489 := zc4 BK489) | ((with_reducible refine gate_callee (f := 25) rfl ?_); refine zG (some 481) Tryd.func25 #[.string a9] ?_; (with_reducible refine (spec_ParseIsland.calls kj167 a9 t490 t491 t492 t493 t494 _ A192.out).mono ?_); rintro e w217 ⟨rfl, hb⟩; refine ⟨_, rfl, ?_⟩; have n0_ := Aside0.mk (Kd.S_below (by (with_reducible repeat (first | apply Kd.S_alloc | apply Kd.S_drewN | apply Kd.S_drew)); exact (Kd.S_mono (Kd.S_far (p := ⟨gb489, 3, none⟩) (Kd.S_far (p := ⟨gb489, 2, none⟩) (Kd.S_far (p := ⟨gb489, 1, none⟩) (Kd.S_far (p := ⟨gb489, 0, none⟩) (Kd.S_types HO467.out BK489.out (by decide)) (fun _ hk => hk.2) (.int .i64 t484)) (fun _ hk => hk.2) (.int .i64 t485)) (fun _ hk => hk.2) (.int .i64 t486)) (fun _ hk => hk.2) (.int .i64 t487)) (fun _ h_ => h_.1))) hb); have n1_ := Aside0.mk (Kd.S_below (by (with_reducible repeat (first | apply Kd.S_alloc | apply Kd.S_drewN | apply Kd.S_drew)); exact (Kd.S_mono (Kd.S_far (p := ⟨gb489, 3, none⟩) (Kd.S_far (p := ⟨gb489, 2, none⟩) (Kd.S_far (p := ⟨gb489, 1, none⟩) (Kd.S_far (p := ⟨gb489, 0, none⟩) (Kd.S_types HO471.out BK489.out (by decide)) (fun _ hk => hk.2) (.int .i64 t484)) (fun _ hk => hk.2) (.int .i64 t485)) (fun _ hk => hk.2) (.int .i64 t486)) (fun _ hk => hk.2) (.int .i64 t487)) (fun _ h_ => h_.1))) hb); have n5_ := Aside0.mk (blk_below (g := gb489) (o := .cells #[.int .i64 t484, .int .i64 t485, .int .i64 t486, .int .i64 t487] 23 (0, 0)) (zw BK489) hb); replace BK386 := zb BK386 hb; replace BK477 := zb BK477 hb; replace BK483 := zb BK483 hb; replace HB := zh HB hb; clear HO467; have HO467 := n0_; clear n0_; clear HO471; have HO471 := n1_; clear n1_; clear BK489; have BK489 := n5_; clear n5_; clear hb) | ((with_reducible refine gate_dst (N := 83) rfl ?_); refine zE 83 #[.int .i64 0, .int .i64 0, .int .i64 0, .int .i64 0] 23 ?_; intro gb495 hg w218 hbox hb; have n0_ := Aside0.mk (Kd.S_below zO3_2 hb); have n1_ := Aside0.mk (Kd.S_below zO3_3 hb); have BK495 := Aside0.mk (hbox); have GW495 := zg HB hg; have GE495 := GW495; have NB386_495 := zl BK386 hg; have NB495_386 := zr BK386 hg; have NB477_495 := zl BK477 hg; have NB495_477 := zr BK477 hg; have NB483_495 := zl BK483 hg; have NB495_483 := zr BK483 hg; have NB489_495 := zl BK489 hg; have NB495_489 := zr BK489 hg; replace BK386 := zb BK386 hb; replace BK477 := zb BK477 hb; replace BK483 := zb BK483 hb; replace BK489 := zb BK489 hb; replace HB := zh HB hb; clear HO467; have HO467 := n0_; clear n0_; clear HO471; have HO471 := n1_; clear n1_; clear hb hbox hg; replace hNB495_386 := NB495_386.out; replace hNB386_495 := NB386_495.out; replace hNB495_477 := NB495_477.out; replace hNB477_495 := NB477_495.out; replace hNB495_483 := NB495_483.out; replace hNB483_495 := NB483_495.out; replace hNB495_489 := NB495_489.out; replace hNB489_495 := NB489_495.out; replace hz495 := zc4 BK495))
                      (try simp only [Act.put, List.setIfInBounds_toArray, List.set_cons_zero, List.set_cons_succ])
                      go_cut [552] from 410 to 483 (fun v552 wc => ∃ (kq : Nat) (x552_192 : Bool), v552 = .bool x552_192 ∧ Aside0 (laws_FnIslandsMeasuredOfAll.j8 kq a3 a5 a6 a8 a9 t448 t449 t450 t454 t455 t456 t457 t458 t464 t465 t476 t488 x552_192 a7_0 a7_1 a7_2 a7_3 t472 t473 t474 t475 t484 t485 t486 t487 = some r) ∧ Aside0 (kq ≤ kj167) ∧ Aside0 (Kd.S (Kd.slice 3 (Kd.int .i64)) 41 wc w.heap.size (fun _ => True) v466 t464) ∧ Aside0 (wc.heap[gb386]? = some (.cells #[.int .i64 a7_0, .int .i64 a7_1, .int .i64 a7_2, .int .i64 a7_3] 23 (0, 0))) ∧ Aside0 (wc.heap[gb477]? = some (.cells #[.int .i64 t472, .int .i64 t473, .int .i64 t474, .int .i64 t475] 23 (0, 0))) ∧ Aside0 (wc.heap[gb489]? = some (.cells #[.int .i64 t484, .int .i64 t485, .int .i64 t486, .int .i64 t487] 23 (0, 0))) ∧ Aside0 (Below w.heap.size w wc))
                      case first =>
                        (try simp only [List.append_eq, List.cons_append, List.nil_append])
                        have H := HC193.out; clear HC193
                        by_cases c224 : (t450 != t453) = true
                        · rw [if_pos c224] at H
                          have c224b0 : (t450 != t453) = true := c224
                          (try (have c224b1 : decide (t450 = t453) = false := by simpa using c224))
                          (try (have c224b2 : (t450 == t453) = false := by simpa using c224))
                          (try (have c224b3 : ¬ (t450 = t453) := by simpa using c224))
                          clear c224
                          (first | rw [c224b0] | (simp only [i64_w, i32_w]; rw [c224b0]) | skip)
                          exact absurd (HR_.out.symm.trans (laws_FnIslandsMeasuredOfAll.j8_true _ _ _ _ _ _ _ _ _ _ _ _ _ _ _ _ _ _ _ _ _ _ _ _ _ _ _ _ _ _ _ H)) (by decide)
                        · rw [if_neg c224] at H
                          have c224b0 : (t450 != t453) = false := by simpa using c224
                          (try (have c224b1 : decide (t450 = t453) = true := by simpa using c224))
                          (try (have c224b2 : (t450 == t453) = true := by simpa using c224))
                          clear c224
                          (first | rw [c224b0] | (simp only [i64_w, i32_w]; rw [c224b0]) | skip)
                          by_cases c225 : t448 = t451
                          · rw [if_pos c225] at H
                            have c225b0 : (t448 == t451) = true := beq_iff_eq.mpr c225
                            have c225b1 : (t448 != t451) = false := bne_eq_false_iff_eq.mpr c225
                            clear c225
                            by_cases c226 : t449 = t452
                            · rw [if_pos c226] at H
                              have c226b0 : (t449 == t452) = true := beq_iff_eq.mpr c226
                              have c226b1 : (t449 != t452) = false := bne_eq_false_iff_eq.mpr c226
                              clear c226
                              by_cases c227 : (t458 != t463) = true
                              · rw [if_pos c227] at H
                                have c227b0 : (t458 != t463) = true := c227
                                (try (have c227b1 : decide (t458 = t463) = false := by simpa using c227))
                                (try (have c227b2 : (t458 == t463) = false := by simpa using c227))
                                (try (have c227b3 : ¬ (t458 = t463) := by simpa using c227))
                                clear c227
                                exact absurd (HR_.out.symm.trans (laws_FnIslandsMeasuredOfAll.j8_true _ _ _ _ _ _ _ _ _ _ _ _ _ _ _ _ _ _ _ _ _ _ _ _ _ _ _ _ _ _ _ H)) (by decide)
                              · rw [if_neg c227] at H
                                have c227b0 : (t458 != t463) = false := by simpa using c227
                                (try (have c227b1 : decide (t458 = t463) = true := by simpa using c227))
                                (try (have c227b2 : (t458 == t463) = true := by simpa using c227))
                                clear c227
                                by_cases c228 : t454 = t459
                                · rw [if_pos c228] at H
                                  have c228b0 : (t454 == t459) = true := beq_iff_eq.mpr c228
                                  have c228b1 : (t454 != t459) = false := bne_eq_false_iff_eq.mpr c228
                                  clear c228
                                  by_cases c229 : t455 = t460
                                  · rw [if_pos c229] at H
                                    have c229b0 : (t455 == t460) = true := beq_iff_eq.mpr c229
                                    have c229b1 : (t455 != t460) = false := bne_eq_false_iff_eq.mpr c229
                                    clear c229
                                    by_cases c230 : t456 = t461
                                    · rw [if_pos c230] at H
                                      have c230b0 : (t456 == t461) = true := beq_iff_eq.mpr c230
                                      have c230b1 : (t456 != t461) = false := bne_eq_false_iff_eq.mpr c230
                                      clear c230
                                      by_cases c231 : t457 = t462
                                      · rw [if_pos c231] at H
                                        have c231b0 : (t457 == t462) = true := beq_iff_eq.mpr c231
                                        have c231b1 : (t457 != t462) = false := bne_eq_false_iff_eq.mpr c231
                                        clear c231
                                        by_cases c232 : (t465 != t469) = true
                                        · rw [if_pos c232] at H
                                          have c232b0 : (t465 != t469) = true := c232
                                          (try (have c232b1 : decide (t465 = t469) = false := by simpa using c232))
                                          (try (have c232b2 : (t465 == t469) = false := by simpa using c232))
                                          (try (have c232b3 : ¬ (t465 = t469) := by simpa using c232))
                                          clear c232
                                          exact absurd (HR_.out.symm.trans (laws_FnIslandsMeasuredOfAll.j8_true _ _ _ _ _ _ _ _ _ _ _ _ _ _ _ _ _ _ _ _ _ _ _ _ _ _ _ _ _ _ _ H)) (by decide)
                                        · rw [if_neg c232] at H
                                          have c232b0 : (t465 != t469) = false := by simpa using c232
                                          (try (have c232b1 : decide (t465 = t469) = true := by simpa using c232))
                                          (try (have c232b2 : (t465 == t469) = true := by simpa using c232))
                                          clear c232; replace H := Option.bind_eq_some_iff.mp H; obtain ⟨t496, A2330, H⟩ := H; (try dsimp only at H); have A233 := Aside0.mk A2330; clear A2330
                                          by_cases c234 : t496 = true
                                          · subst c234
                                            rw [if_pos rfl] at H
                                            by_cases c235 : (t476 != t482) = true
                                            · rw [if_pos c235] at H
                                              have c235b0 : (t476 != t482) = true := c235
                                              (try (have c235b1 : decide (t476 = t482) = false := by simpa using c235))
                                              (try (have c235b2 : (t476 == t482) = false := by simpa using c235))
                                              (try (have c235b3 : ¬ (t476 = t482) := by simpa using c235))
                                              clear c235
                                              exact absurd (HR_.out.symm.trans (laws_FnIslandsMeasuredOfAll.j8_true _ _ _ _ _ _ _ _ _ _ _ _ _ _ _ _ _ _ _ _ _ _ _ _ _ _ _ _ _ _ _ H)) (by decide)
                                            · rw [if_neg c235] at H
                                              have c235b0 : (t476 != t482) = false := by simpa using c235
                                              (try (have c235b1 : decide (t476 = t482) = true := by simpa using c235))
                                              (try (have c235b2 : (t476 == t482) = true := by simpa using c235))
                                              clear c235
                                              by_cases c238 : (!(t472 == t478) || (!(t473 == t479) || (!(t474 == t480) || (!(t475 == t481))))) = true
                                              · rw [if_pos c238] at H
                                                have c238b0 : (!(t472 == t478) || (!(t473 == t479) || (!(t474 == t480) || (!(t475 == t481))))) = true := c238
                                                clear c238
                                                exact absurd (HR_.out.symm.trans (laws_FnIslandsMeasuredOfAll.j8_true _ _ _ _ _ _ _ _ _ _ _ _ _ _ _ _ _ _ _ _ _ _ _ _ _ _ _ _ _ _ _ H)) (by decide)
                                              · rw [if_neg c238] at H
                                                have c238b0 : (!(t472 == t478) || (!(t473 == t479) || (!(t474 == t480) || (!(t475 == t481))))) = false := by simpa using c238
                                                clear c238
                                                by_cases c250 : (t488 != t494) = true
                                                · rw [if_pos c250] at H
                                                  have c250b0 : (t488 != t494) = true := c250
                                                  (try (have c250b1 : decide (t488 = t494) = false := by simpa using c250))
                                                  (try (have c250b2 : (t488 == t494) = false := by simpa using c250))
                                                  (try (have c250b3 : ¬ (t488 = t494) := by simpa using c250))
                                                  clear c250
                                                  exact absurd (HR_.out.symm.trans (laws_FnIslandsMeasuredOfAll.j8_true _ _ _ _ _ _ _ _ _ _ _ _ _ _ _ _ _ _ _ _ _ _ _ _ _ _ _ _ _ _ _ H)) (by decide)
                                                · rw [if_neg c250] at H
                                                  have c250b0 : (t488 != t494) = false := by simpa using c250
                                                  (try (have c250b1 : decide (t488 = t494) = true := by simpa using c250))
                                                  (try (have c250b2 : (t488 == t494) = true := by simpa using c250))
                                                  clear c250; have H' := Aside0.mk H; clear H
                                                  obtain ⟨Ao262, co262, eo262⟩ := Kd.S_slice HO467.out
                                                  subst eo262
                                                  obtain ⟨Ao263, co263, eo263⟩ := Kd.S_slice HO471.out
                                                  subst eo263
                                                  as_aux_lemma =>
                                                   go_wp2_with (first | (go_at_call 26; (with_reducible refine (laws_yRows.calls kj167 _ _ t464 _ _ t468 true _ ?side1 ?side2 ?side3 ?side4 A233.out).mono ?_); (case side1 => refine (Kd.S_reads' (e := 41) (base := w.heap.size) (ok := fun k_ => (True ∧ some k_ ≠ (.slice Ao263 t468.length co263 : Value).ownBlock)) (n := t464.length) (c := co262) ?_).2.2; exact (by (with_reducible repeat (first | apply Kd.S_alloc | apply Kd.S_drewN | apply Kd.S_drew)); exact (Kd.S_mono (Kd.S_far (p := ⟨gb495, 3, none⟩) (Kd.S_far (p := ⟨gb495, 2, none⟩) (Kd.S_far (p := ⟨gb495, 1, none⟩) (Kd.S_far (p := ⟨gb495, 0, none⟩) (Kd.S_types HO467.out BK495.out (by decide)) (fun _ hk => hk.2) (.int .i64 t490)) (fun _ hk => hk.2) (.int .i64 t491)) (fun _ hk => hk.2) (.int .i64 t492)) (fun _ hk => hk.2) (.int .i64 t493)) (fun _ h_ => h_.1)))); (case side2 => exact (Kd.S_reads' HO467.out).2.1); (case side3 => refine (Kd.S_reads' (e := 41) (base := w.heap.size) (ok := fun k_ => (True ∧ some k_ ≠ (.slice Ao262 t464.length co262 : Value).ownBlock)) (n := t468.length) (c := co263) ?_).2.2; exact (by (with_reducible repeat (first | apply Kd.S_alloc | apply Kd.S_drewN | apply Kd.S_drew)); exact (Kd.S_mono (Kd.S_far (p := ⟨gb495, 3, none⟩) (Kd.S_far (p := ⟨gb495, 2, none⟩) (Kd.S_far (p := ⟨gb495, 1, none⟩) (Kd.S_far (p := ⟨gb495, 0, none⟩) (Kd.S_types HO471.out BK495.out (by decide)) (fun _ hk => hk.2) (.int .i64 t490)) (fun _ hk => hk.2) (.int .i64 t491)) (fun _ hk => hk.2) (.int .i64 t492)) (fun _ hk => hk.2) (.int .i64 t493)) (fun _ h_ => h_.1)))); (case side4 => exact (Kd.S_reads' HO471.out).2.1); rintro e w' ⟨rfl, ⟨nd, rfl⟩⟩; replace hNB477_386 := NB477_386.out; replace hNB386_477 := NB386_477.out; replace hNB477_483 := NB477_483.out; replace hNB483_477 := NB483_477.out; replace hNB477_489 := NB477_489.out; replace hNB489_477 := NB489_477.out; replace hNB477_495 := NB477_495.out; replace hNB495_477 := NB495_477.out; replace hz477 := zc4 BK477; replace hNB483_386 := NB483_386.out; replace hNB386_483 := NB386_483.out; replace hNB483_489 := NB483_489.out; replace hNB489_483 := NB489_483.out; replace hNB483_495 := NB483_495.out; replace hNB495_483 := NB495_483.out; replace hz483 := zc4 BK483; replace hNB489_386 := NB489_386.out; replace hNB386_489 := NB386_489.out; replace hNB489_495 := NB489_495.out; replace hNB495_489 := NB495_489.out; replace hz489 := zc4 BK489; replace hNB495_386 := NB495_386.out; replace hNB386_495 := NB386_495.out; replace hz495 := zc4 BK495))
                                                   go_meet
                                                   case rel => exact ⟨_, ((!(t484 == t490) || (!(t485 == t491) || (!(t486 == t492) || (!(t487 == t493)))))), zu, H', ⟨by have := HJ21.out; have := HJ94.out; have := HJ167.out; first | omega | exact Nat.le_refl _⟩, ⟨by (with_reducible repeat (first | apply Kd.S_alloc | apply Kd.S_drewN | apply Kd.S_drew)); exact Kd.S_mono (Kd.S_far (p := ⟨gb495, 3, none⟩) (Kd.S_far (p := ⟨gb495, 2, none⟩) (Kd.S_far (p := ⟨gb495, 1, none⟩) (Kd.S_far (p := ⟨gb495, 0, none⟩) (Kd.S_types HO467.out BK495.out (by decide)) (fun _ hk => hk.2) (.int .i64 t490)) (fun _ hk => hk.2) (.int .i64 t491)) (fun _ hk => hk.2) (.int .i64 t492)) (fun _ hk => hk.2) (.int .i64 t493)) (fun _ hk => trivial)⟩, zk BK386, zk BK477, zk BK489, ⟨zy HB⟩⟩
                                          · replace c234 := Bool.eq_false_iff.mpr c234
                                            subst c234; rw [if_neg (show ¬ (false = true) by decide)] at H
                                            exact absurd (HR_.out.symm.trans (laws_FnIslandsMeasuredOfAll.j8_true _ _ _ _ _ _ _ _ _ _ _ _ _ _ _ _ _ _ _ _ _ _ _ _ _ _ _ _ _ _ _ H)) (by decide)
                                      · rw [if_neg c231] at H
                                        have c231b0 : (t457 == t462) = false := beq_eq_false_iff_ne.mpr c231
                                        have c231b1 : (t457 != t462) = true := bne_iff_ne.mpr c231
                                        exact absurd (HR_.out.symm.trans (laws_FnIslandsMeasuredOfAll.j8_true _ _ _ _ _ _ _ _ _ _ _ _ _ _ _ _ _ _ _ _ _ _ _ _ _ _ _ _ _ _ _ H)) (by decide)
                                    · rw [if_neg c230] at H
                                      have c230b0 : (t456 == t461) = false := beq_eq_false_iff_ne.mpr c230
                                      have c230b1 : (t456 != t461) = true := bne_iff_ne.mpr c230
                                      exact absurd (HR_.out.symm.trans (laws_FnIslandsMeasuredOfAll.j8_true _ _ _ _ _ _ _ _ _ _ _ _ _ _ _ _ _ _ _ _ _ _ _ _ _ _ _ _ _ _ _ H)) (by decide)
                                  · rw [if_neg c229] at H
                                    have c229b0 : (t455 == t460) = false := beq_eq_false_iff_ne.mpr c229
                                    have c229b1 : (t455 != t460) = true := bne_iff_ne.mpr c229
                                    exact absurd (HR_.out.symm.trans (laws_FnIslandsMeasuredOfAll.j8_true _ _ _ _ _ _ _ _ _ _ _ _ _ _ _ _ _ _ _ _ _ _ _ _ _ _ _ _ _ _ _ H)) (by decide)
                                · rw [if_neg c228] at H
                                  have c228b0 : (t454 == t459) = false := beq_eq_false_iff_ne.mpr c228
                                  have c228b1 : (t454 != t459) = true := bne_iff_ne.mpr c228
                                  exact absurd (HR_.out.symm.trans (laws_FnIslandsMeasuredOfAll.j8_true _ _ _ _ _ _ _ _ _ _ _ _ _ _ _ _ _ _ _ _ _ _ _ _ _ _ _ _ _ _ _ H)) (by decide)
                            · rw [if_neg c226] at H
                              have c226b0 : (t449 == t452) = false := beq_eq_false_iff_ne.mpr c226
                              have c226b1 : (t449 != t452) = true := bne_iff_ne.mpr c226
                              exact absurd (HR_.out.symm.trans (laws_FnIslandsMeasuredOfAll.j8_true _ _ _ _ _ _ _ _ _ _ _ _ _ _ _ _ _ _ _ _ _ _ _ _ _ _ _ _ _ _ _ H)) (by decide)
                          · rw [if_neg c225] at H
                            have c225b0 : (t448 == t451) = false := beq_eq_false_iff_ne.mpr c225
                            have c225b1 : (t448 != t451) = true := bne_iff_ne.mpr c225
                            exact absurd (HR_.out.symm.trans (laws_FnIslandsMeasuredOfAll.j8_true _ _ _ _ _ _ _ _ _ _ _ _ _ _ _ _ _ _ _ _ _ _ _ _ _ _ _ _ _ _ _ H)) (by decide)
                      case rest =>
                        (try clear hz385); (try clear hz430); (try clear hz436); (try clear hz442); (try clear hz443); (try clear hz386); (try clear hz477); (try clear hz483); (try clear hz489); (try clear hz495)
                        clear HC193
                        obtain ⟨kq, x552_192, rfl, HA, HJ192, HO_73, BK386, BK477, BK489, HB⟩ := hcut
                        cases kq with
                        | zero => exact absurd HA.out (by simp [laws_FnIslandsMeasuredOfAll.j8])
                        | succ kj192 =>
                          have H := HA.out; clear HA; simp only [laws_FnIslandsMeasuredOfAll.j8] at H
                          by_cases c280 : x552_192 = true
                          · subst c280
                            rw [if_pos rfl] at H
                            obtain rfl := Option.some.inj H
                            exact absurd HR_.out (by decide)
                          · replace c280 := Bool.eq_false_iff.mpr c280
                            subst c280; rw [if_neg (show ¬ (false = true) by decide)] at H; have HC281 := Aside0.mk H; clear H
                            as_aux_lemma =>
                             go_upto_region 45 with (fail)
                             go_cut [566] from 1 to 0 (fun v566 wc => ∃ (kq : Nat) (x566_280 : Bool), v566 = .bool x566_280 ∧ Aside0 (laws_FnIslandsMeasuredOfAll.j9 kq a5 a6 a8 a9 t454 t455 t456 t457 t458 t464 t465 t476 t488 x566_280 a7_0 a7_1 a7_2 a7_3 t472 t473 t474 t475 t484 t485 t486 t487 = some r) ∧ Aside0 (kq ≤ kj192) ∧ Aside0 (Kd.S (Kd.slice 3 (Kd.int .i64)) 41 wc w.heap.size (fun _ => True) v466 t464) ∧ Aside0 (wc.heap[gb386]? = some (.cells #[.int .i64 a7_0, .int .i64 a7_1, .int .i64 a7_2, .int .i64 a7_3] 23 (0, 0))) ∧ Aside0 (wc.heap[gb477]? = some (.cells #[.int .i64 t472, .int .i64 t473, .int .i64 t474, .int .i64 t475] 23 (0, 0))) ∧ Aside0 (wc.heap[gb489]? = some (.cells #[.int .i64 t484, .int .i64 t485, .int .i64 t486, .int .i64 t487] 23 (0, 0))) ∧ Aside0 (Below w.heap.size w wc))
                             case first =>
                               have H := HC281.out; clear HC281
                               by_cases c282 : t450 = true
                               · subst c282
                                 rw [if_pos rfl] at H; replace H := Option.bind_eq_some_iff.mp H; obtain ⟨t497, A2830, H⟩ := H; (try dsimp only at H); have A283 := Aside0.mk A2830; clear A2830
                                 by_cases c284 : t497 = true
                                 · subst c284
                                   rw [if_pos rfl] at H; have H' := Aside0.mk H; clear H
                                   as_aux_lemma =>
                                    go_wp2_with (first | (go_at_call 14; (with_reducible refine (laws_yLow.calls kj192 t448 t449 true _ A283.out).mono ?_); rintro e w' ⟨rfl, ⟨nd, rfl⟩⟩))
                                    go_meet
                                    case rel => exact ⟨_, (decide (t448 ≤ (wrap64 (a3 * t449)))), zu, H', ⟨by have := HJ21.out; have := HJ94.out; have := HJ167.out; have := HJ192.out; first | omega | exact Nat.le_refl _⟩, ⟨by (with_reducible repeat (first | apply Kd.S_alloc | apply Kd.S_drewN | apply Kd.S_drew)); exact HO_73.out⟩, zk BK386, zk BK477, zk BK489, ⟨zy HB⟩⟩
                                 · replace c284 := Bool.eq_false_iff.mpr c284
                                   subst c284; rw [if_neg (show ¬ (false = true) by decide)] at H
                                   exact absurd (HR_.out.symm.trans (laws_FnIslandsMeasuredOfAll.j9_true _ _ _ _ _ _ _ _ _ _ _ _ _ _ _ _ _ _ _ _ _ _ _ _ _ _ _ H)) (by decide)
                               · replace c282 := Bool.eq_false_iff.mpr c282
                                 subst c282; rw [if_neg (show ¬ (false = true) by decide)] at H; have H' := Aside0.mk H; clear H
                                 as_aux_lemma =>
                                  go_wp2
                                  go_meet
                                  case rel => exact ⟨_, (false), zu, H', ⟨by have := HJ21.out; have := HJ94.out; have := HJ167.out; have := HJ192.out; first | omega | exact Nat.le_refl _⟩, ⟨by (with_reducible repeat (first | apply Kd.S_alloc | apply Kd.S_drewN | apply Kd.S_drew)); exact HO_73.out⟩, zk BK386, zk BK477, zk BK489, ⟨zy HB⟩⟩
                             case rest =>
                               (try clear hz385); (try clear hz430); (try clear hz436); (try clear hz442); (try clear hz443); (try clear hz386); (try clear hz477); (try clear hz483); (try clear hz489); (try clear hz495)
                               clear HC281
                               obtain ⟨kq, x566_280, rfl, HA, HJ280, HO_73, BK386, BK477, BK489, HB⟩ := hcut
                               cases kq with
                               | zero => exact absurd HA.out (by simp [laws_FnIslandsMeasuredOfAll.j9])
                               | succ kj280 =>
                                 have H := HA.out; clear HA; simp only [laws_FnIslandsMeasuredOfAll.j9] at H
                                 by_cases c285 : x566_280 = true
                                 · subst c285
                                   rw [if_pos rfl] at H
                                   obtain rfl := Option.some.inj H
                                   exact absurd HR_.out (by decide)
                                 · replace c285 := Bool.eq_false_iff.mpr c285
                                   subst c285; rw [if_neg (show ¬ (false = true) by decide)] at H; have HC286 := Aside0.mk H; clear H
                                   as_aux_lemma =>
                                    go_upto_region 47 with (fail)
                                    go_cut [592] from 1 to 0 (fun v592 wc => ∃ (kq : Nat) (x592_285 : Bool), v592 = .bool x592_285 ∧ Aside0 (laws_FnIslandsMeasuredOfAll.j10 kq a5 a6 a8 a9 t464 t465 t476 t488 x592_285 a7_0 a7_1 a7_2 a7_3 t472 t473 t474 t475 t484 t485 t486 t487 = some r) ∧ Aside0 (kq ≤ kj280) ∧ Aside0 (Kd.S (Kd.slice 3 (Kd.int .i64)) 41 wc w.heap.size (fun _ => True) v466 t464) ∧ Aside0 (wc.heap[gb386]? = some (.cells #[.int .i64 a7_0, .int .i64 a7_1, .int .i64 a7_2, .int .i64 a7_3] 23 (0, 0))) ∧ Aside0 (wc.heap[gb477]? = some (.cells #[.int .i64 t472, .int .i64 t473, .int .i64 t474, .int .i64 t475] 23 (0, 0))) ∧ Aside0 (wc.heap[gb489]? = some (.cells #[.int .i64 t484, .int .i64 t485, .int .i64 t486, .int .i64 t487] 23 (0, 0))) ∧ Aside0 (Below w.heap.size w wc))
                                    case first =>
                                      have H := HC286.out; clear HC286
                                      by_cases c287 : t458 = true
                                      · subst c287
                                        rw [if_pos rfl] at H; replace H := Option.bind_eq_some_iff.mp H; obtain ⟨t498, A2880, H⟩ := H; (try dsimp only at H); have A288 := Aside0.mk A2880; clear A2880
                                        by_cases c289 : t498 = true
                                        · subst c289
                                          rw [if_pos rfl] at H; replace H := Option.bind_eq_some_iff.mp H; obtain ⟨t499, A2900, H⟩ := H; (try dsimp only at H); have A290 := Aside0.mk A2900; clear A2900
                                          by_cases c291 : t499 = true
                                          · subst c291
                                            rw [if_pos rfl] at H
                                            by_cases c292 : t454 < 1
                                            · rw [if_pos c292] at H
                                              have c292b0 : decide (t454 < 1) = true := decide_eq_true c292; clear c292
                                              (first | rw [c292b0] | (simp only [i64_w, i32_w]; rw [c292b0]) | skip)
                                              exact absurd (HR_.out.symm.trans (laws_FnIslandsMeasuredOfAll.j10_true _ _ _ _ _ _ _ _ _ _ _ _ _ _ _ _ _ _ _ _ _ _ H)) (by decide)
                                            · rw [if_neg c292] at H
                                              have c292b0 : decide (t454 < 1) = false := decide_eq_false c292; clear c292
                                              (first | rw [c292b0] | (simp only [i64_w, i32_w]; rw [c292b0]) | skip)
                                              have H' := Aside0.mk H; clear H
                                              as_aux_lemma =>
                                               go_wp2_with (first | (go_at_call 14; (with_reducible refine (laws_yLow.calls kj280 t454 t455 true _ A288.out).mono ?_); rintro e w' ⟨rfl, ⟨nd, rfl⟩⟩) | (go_at_call 14; (with_reducible refine (laws_yLow.calls kj280 t456 t457 true _ A290.out).mono ?_); rintro e w' ⟨rfl, ⟨nd, rfl⟩⟩))
                                               go_meet
                                               case rel => exact ⟨_, (decide ((wrap64 (t456 * t455)) ≤ (wrap64 (t454 * t457)))), zu, H', ⟨by have := HJ21.out; have := HJ94.out; have := HJ167.out; have := HJ192.out; have := HJ280.out; first | omega | exact Nat.le_refl _⟩, ⟨by (with_reducible repeat (first | apply Kd.S_alloc | apply Kd.S_drewN | apply Kd.S_drew)); exact HO_73.out⟩, zk BK386, zk BK477, zk BK489, ⟨zy HB⟩⟩
                                          · replace c291 := Bool.eq_false_iff.mpr c291
                                            subst c291; rw [if_neg (show ¬ (false = true) by decide)] at H
                                            exact absurd (HR_.out.symm.trans (laws_FnIslandsMeasuredOfAll.j10_true _ _ _ _ _ _ _ _ _ _ _ _ _ _ _ _ _ _ _ _ _ _ H)) (by decide)
                                        · replace c289 := Bool.eq_false_iff.mpr c289
                                          subst c289; rw [if_neg (show ¬ (false = true) by decide)] at H
                                          exact absurd (HR_.out.symm.trans (laws_FnIslandsMeasuredOfAll.j10_true _ _ _ _ _ _ _ _ _ _ _ _ _ _ _ _ _ _ _ _ _ _ H)) (by decide)
                                      · replace c287 := Bool.eq_false_iff.mpr c287
                                        subst c287; rw [if_neg (show ¬ (false = true) by decide)] at H; have H' := Aside0.mk H; clear H
                                        as_aux_lemma =>
                                         go_wp2
                                         go_meet
                                         case rel => exact ⟨_, (false), zu, H', ⟨by have := HJ21.out; have := HJ94.out; have := HJ167.out; have := HJ192.out; have := HJ280.out; first | omega | exact Nat.le_refl _⟩, ⟨by (with_reducible repeat (first | apply Kd.S_alloc | apply Kd.S_drewN | apply Kd.S_drew)); exact HO_73.out⟩, zk BK386, zk BK477, zk BK489, ⟨zy HB⟩⟩
                                    case rest =>
                                      (try clear hz385); (try clear hz430); (try clear hz436); (try clear hz442); (try clear hz443); (try clear hz386); (try clear hz477); (try clear hz483); (try clear hz489); (try clear hz495)
                                      clear HC286
                                      obtain ⟨kq, x592_285, rfl, HA, HJ285, HO_73, BK386, BK477, BK489, HB⟩ := hcut
                                      cases kq with
                                      | zero => exact absurd HA.out (by simp [laws_FnIslandsMeasuredOfAll.j10])
                                      | succ kj285 =>
                                        have H := HA.out; clear HA; simp only [laws_FnIslandsMeasuredOfAll.j10] at H
                                        by_cases c293 : x592_285 = true
                                        · subst c293
                                          rw [if_pos rfl] at H
                                          obtain rfl := Option.some.inj H
                                          exact absurd HR_.out (by decide)
                                        · replace c293 := Bool.eq_false_iff.mpr c293
                                          subst c293; rw [if_neg (show ¬ (false = true) by decide)] at H; have HC294 := Aside0.mk H; clear H
                                          as_aux_lemma =>
                                           go_upto_if 593 with (fail)
                                           go_cut [] from 593 to 593 (fun wc => ∃ (kq : Nat), Aside0 (laws_FnIslandsMeasuredOfAll.j12 kq a8 a9 t476 t488 a7_0 a7_1 a7_2 a7_3 t472 t473 t474 t475 t484 t485 t486 t487 = some r) ∧ Aside0 (kq ≤ kj285) ∧ Aside0 (wc.heap[gb386]? = some (.cells #[.int .i64 a7_0, .int .i64 a7_1, .int .i64 a7_2, .int .i64 a7_3] 23 (0, 0))) ∧ Aside0 (wc.heap[gb477]? = some (.cells #[.int .i64 t472, .int .i64 t473, .int .i64 t474, .int .i64 t475] 23 (0, 0))) ∧ Aside0 (wc.heap[gb489]? = some (.cells #[.int .i64 t484, .int .i64 t485, .int .i64 t486, .int .i64 t487] 23 (0, 0))) ∧ Aside0 (Below w.heap.size w wc))
                                           case first =>
                                             have H := HC294.out; clear HC294
                                             by_cases c295 : t465 = true
                                             · subst c295
                                               rw [if_pos rfl] at H; have H' := Aside0.mk H; clear H
                                               obtain ⟨Ao296, co296, eo296⟩ := Kd.S_slice HO_73.out
                                               subst eo296
                                               as_aux_lemma =>
                                                go_wp2
                                                go_loopg [596] kj285 (fun kq v596 w' => ∃ (x596_7 : Int), v596 = .int .i64 x596_7 ∧ Aside0 (laws_FnIslandsMeasuredOfAll.l0 kq a5 a6 a8 a9 t476 t488 t464 (t464.length : Int) x596_7 a7_0 a7_1 a7_2 a7_3 t472 t473 t474 t475 t484 t485 t486 t487 = some r) ∧ Aside0 (kq ≤ kj285) ∧ Aside0 (Kd.S (Kd.slice 3 (Kd.int .i64)) 41 w' w.heap.size (fun _ => True) (.slice Ao296 t464.length co296) t464) ∧ Aside0 (w'.heap[gb386]? = some (.cells #[.int .i64 a7_0, .int .i64 a7_1, .int .i64 a7_2, .int .i64 a7_3] 23 (0, 0))) ∧ Aside0 (w'.heap[gb477]? = some (.cells #[.int .i64 t472, .int .i64 t473, .int .i64 t474, .int .i64 t475] 23 (0, 0))) ∧ Aside0 (w'.heap[gb489]? = some (.cells #[.int .i64 t484, .int .i64 t485, .int .i64 t486, .int .i64 t487] 23 (0, 0))) ∧ Aside0 (Below w.heap.size w w'))
                                                case atStart => exact ⟨(0), zu, H', ⟨Nat.le_refl _⟩, ⟨by (with_reducible repeat (first | apply Kd.S_alloc | apply Kd.S_drewN | apply Kd.S_drew)); exact HO_73.out⟩, zk BK386, zk BK477, zk BK489, ⟨zy HB⟩⟩
                                                case round =>
                                                  clear H'
                                                  obtain ⟨x596_7, rfl, HA, HK7, HO_594, BK386, BK477, BK489, HB⟩ := hrel
                                                  cases gk with
                                                  | zero => exact absurd HA.out (by simp [laws_FnIslandsMeasuredOfAll.l0])
                                                  | succ k7 =>
                                                    have H := HA.out; clear HA; simp only [laws_FnIslandsMeasuredOfAll.l0] at H
                                                    by_cases c297 : x596_7 < (t464.length : Int)
                                                    · rw [if_pos c297] at H
                                                      have c297b0 : decide (x596_7 < (t464.length : Int)) = true := decide_eq_true c297; clear c297
                                                      (first | rw [c297b0] | (simp only [i64_w, i32_w]; rw [c297b0]) | skip)
                                                      by_cases c298 : 0 ≤ x596_7
                                                      · rw [if_pos c298] at H
                                                        have c298b0 : decide (0 ≤ x596_7) = true := decide_eq_true c298; clear c298
                                                        by_cases c299 : x596_7 < (t464.length : Int)
                                                        · rw [if_pos c299] at H
                                                          have c299b0 : decide (x596_7 < (t464.length : Int)) = true := decide_eq_true c299; clear c299
                                                          by_cases c300 : ((rd_L2 t464 x596_7).length : Int) = 4
                                                          · rw [if_pos c300] at H
                                                            have c300b0 : (((rd_L2 t464 x596_7).length : Int) == 4) = true := beq_iff_eq.mpr c300
                                                            have c300b1 : (((rd_L2 t464 x596_7).length : Int) != 4) = false := bne_eq_false_iff_eq.mpr c300
                                                            clear c300
                                                            by_cases c301 : 0 < ((rd_L2 t464 x596_7).length : Int)
                                                            · rw [if_pos c301] at H
                                                              have c301b0 : decide (0 < ((rd_L2 t464 x596_7).length : Int)) = true := decide_eq_true c301
                                                              have c301b1 : decide (0 < (rd_L2 t464 x596_7).length) = true := decide_eq_true (by omega)
                                                              clear c301
                                                              by_cases c302 : 1 < ((rd_L2 t464 x596_7).length : Int)
                                                              · rw [if_pos c302] at H
                                                                have c302b0 : decide (1 < ((rd_L2 t464 x596_7).length : Int)) = true := decide_eq_true c302
                                                                have c302b1 : decide (1 < (rd_L2 t464 x596_7).length) = true := decide_eq_true (by omega)
                                                                clear c302; replace H := Option.bind_eq_some_iff.mp H; obtain ⟨⟨t503, t504, t505⟩, A3030, H⟩ := H; (try dsimp only at H); have A303 := Aside0.mk A3030; clear A3030
                                                                by_cases c304 : t505 = true
                                                                · subst c304
                                                                  rw [if_pos rfl] at H
                                                                  by_cases c305 : t504 = 1
                                                                  · rw [if_pos c305] at H
                                                                    have c305b0 : (t504 == 1) = true := beq_iff_eq.mpr c305
                                                                    have c305b1 : (t504 != 1) = false := bne_eq_false_iff_eq.mpr c305
                                                                    clear c305
                                                                    by_cases c306 : 2 < ((rd_L2 t464 x596_7).length : Int)
                                                                    · rw [if_pos c306] at H
                                                                      have c306b0 : decide (2 < ((rd_L2 t464 x596_7).length : Int)) = true := decide_eq_true c306
                                                                      have c306b1 : decide (2 < (rd_L2 t464 x596_7).length) = true := decide_eq_true (by omega)
                                                                      clear c306
                                                                      by_cases c307 : t503 = (rd (rd_L2 t464 x596_7) 2)
                                                                      · rw [if_pos c307] at H
                                                                        have c307b0 : (t503 == (rd (rd_L2 t464 x596_7) 2)) = true := beq_iff_eq.mpr c307
                                                                        have c307b1 : (t503 != (rd (rd_L2 t464 x596_7) 2)) = false := bne_eq_false_iff_eq.mpr c307
                                                                        clear c307; have H' := Aside0.mk H; clear H
                                                                        have p500 : 0 ≤ (x596_7 : Int) := of_decide_eq_true zO3_4
                                                                        have q500 : x596_7 < (t464.length : Int) := of_decide_eq_true zO3_4
                                                                        obtain ⟨ad500, A500_0, c500_0, e500, hx500_0, hl500_0, hi500_0⟩ := at_L2 (Kd.S_reads' HO_594.out).2.2 x596_7 p500 q500
                                                                        cases e500
                                                                        obtain ⟨ce500, hce500, hMe500, hcc500⟩ := Kd.S_get HO_594.out [] x596_7 p500 (by first | exact q500 | exact of_decide_eq_true zO3_4 | (have e_ := (Kd.S_reads' HO_594.out).1; omega))
                                                                        obtain ⟨ve500_0, rfl, ge500_0⟩ := hMe500
                                                                        have hv500_0 := hcc500 0 _ rfl
                                                                        rw [Nat.add_zero, show ((Kd.slice 3 (Kd.int .i64))).sz = 1 from rfl, Nat.mul_one] at hv500_0
                                                                        replace hv500_0 := Option.some.inj (hv500_0.symm.trans hx500_0)
                                                                        rw [hv500_0] at ge500_0
                                                                        have HL500_0 := Aside0.mk (show Kd.R (Kd.int .i64) 3 _ _ _ _ (rd_L2 t464 x596_7) from ge500_0)
                                                                        clear hv500_0 ge500_0; clear hcc500 hce500; have HR500_0 := Aside0.mk hi500_0; have HC500_0 := Aside0.mk hl500_0; clear hi500_0 hl500_0; replace p500 := eq_true p500; replace q500 := eq_true q500
                                                                        as_aux_lemma =>
                                                                         try go_wp2
                                                                         have n0_ := Aside0.mk (Kd.S_drew HO_594.out)
                                                                         have n5_ := Aside0.mk (Kd.C_drew HR500_0.out)
                                                                         replace HL500_0 := Aside0.mk (Kd.R_drew HL500_0.out); replace BK386 := Aside0.mk (blk_drew BK386.out); replace BK477 := Aside0.mk (blk_drew BK477.out); replace BK489 := Aside0.mk (blk_drew BK489.out); replace HB := Aside0.mk (below_drew1 HB.out); clear HO_594; have HO_594 := n0_; clear n0_; clear HR500_0; have HR500_0 := n5_; clear n5_
                                                                         have p501 : 0 ≤ (0 : Int) := (by omega)
                                                                         have q501 : 0 < ((rd_L2 t464 x596_7).length : Int) := of_decide_eq_true zO3_4
                                                                         obtain ⟨ad501, e501, hx501_0⟩ := Kd.at_int zO3_0 0 p501 q501
                                                                         cases e501
                                                                         have qi501 : (0 < (rd_L2 t464 x596_7).length) = True := eq_true (by omega)
                                                                         (try rw [show ((0 : Int)).toNat = 0 from rfl] at hx501_0)
                                                                         (try rw [Addr.add_zero'] at hx501_0)
                                                                         replace p501 := eq_true p501; replace q501 := eq_true q501
                                                                         have p502 : 0 ≤ (1 : Int) := (by omega)
                                                                         have q502 : 1 < ((rd_L2 t464 x596_7).length : Int) := of_decide_eq_true zO3_4
                                                                         obtain ⟨ad502, e502, hx502_0⟩ := Kd.at_int zO3_0 1 p502 q502
                                                                         obtain rfl : ad501 = ad502 := (by injection e502)
                                                                         (try simp only [show (1 : Int).toNat = 1 from rfl, Nat.reduceMul, Nat.reduceEqDiff, Go.Addr.add, ↓reduceIte] at hx502_0)
                                                                         have qi502 : (1 < (rd_L2 t464 x596_7).length) = True := eq_true (by omega)
                                                                         (try rw [show ((1 : Int)).toNat = 1 from rfl] at hx502_0)
                                                                         replace p502 := eq_true p502; replace q502 := eq_true q502
                                                                         refine start_ (n := 17) (S := fun w' => w'.cell? ad501 = some (.int .i64 (rd (rd_L2 t464 x596_7) 0)) ∧ w'.cell? ⟨ad501.block, ad501.off + 1, none⟩ = some (.int .i64 (rd (rd_L2 t464 x596_7) 1))) (ds := []) #[false, false, false, false, false, false, false, false, false, false, false, false, false, false, false, false, false] (by kernel_rfl) rfl rfl ⟨hx501_0, hx502_0⟩ (fun hHeld => ?_); refine with_tabW laws_FnIslandsMeasuredOfAll.tab55 laws_FnIslandsMeasuredOfAll.bits55 (fun HT_ HW_ => ?_)
                                                                         generalize wr.drew = w308 at HO_594 HL500_0 BK386 BK477 BK489 HR500_0 HB hx501_0 hx502_0 hHeld ⊢
                                                                         refine zA 0 604 HT_ ?_
                                                                         refine zA 1 605 HT_ ?_
                                                                         refine zA 2 606 HT_ ?_
                                                                         refine zA 3 607 HT_ ?_
                                                                         refine zA 5 609 HT_ ?_
                                                                         refine zA 6 610 HT_ ?_
                                                                         refine zT 4 608 HT_ HW_ hHeld ?_
                                                                         refine zT 7 611 HT_ HW_ hHeld ?_
                                                                         refine zA 8 612 HT_ ?_
                                                                         refine zO 9 (some 613) HT_ (fun K hK => ?_)
                                                                         refine goes_ Tryd.func4 (by kernel_rfl) rfl #[.agg #[.int .i64 a5, .int .i64 a6, .int .i64 (rd (rd_L2 t464 x596_7) 0), .int .i64 (rd (rd_L2 t464 x596_7) 1)]] (by rfl) rfl rfl zO3_1 ?_
                                                                         with_reducible refine (impl_IslandHeight.calls k7 a5 a6 (rd (rd_L2 t464 x596_7) 0) (rd (rd_L2 t464 x596_7) 1) t503 t504 true _ A303.out).mono ?_
                                                                         rintro e w309 ⟨rfl, hb⟩
                                                                         have HS0_ := (hb.cell (World.block_lt_of_cell? _ _ (hHeld.1))).trans (hHeld.1)
                                                                         have HS1_ := (hb.cell (World.block_lt_of_cell? _ _ (hHeld.2))).trans (hHeld.2)
                                                                         refine ⟨_, rfl, ?_⟩
                                                                         have n0_ := Aside0.mk (Kd.S_below (by (with_reducible repeat (first | apply Kd.S_alloc | apply Kd.S_drewN | apply Kd.S_drew)); exact HO_594.out) hb)
                                                                         have n5_ := Aside0.mk (Kd.C_below zO3_0 hb)
                                                                         replace HL500_0 := zo HL500_0 hb; replace BK386 := zb BK386 hb; replace BK477 := zb BK477 hb; replace BK489 := zb BK489 hb; replace HB := zh HB hb; clear HO_594; have HO_594 := n0_; clear n0_; clear HR500_0; have HR500_0 := n5_; clear n5_
                                                                         (try clear hb)
                                                                         (try clear hb2)
                                                                         (try clear hk)
                                                                         (try clear hi)
                                                                         refine hK.out _ _ ⟨HS0_, HS1_⟩ (fun hHeld => ?_)
                                                                         clear hK K
                                                                         refine zN 613 ?_
                                                                         refine zA 10 603 HT_ ?_
                                                                         refine zA 11 614 HT_ ?_
                                                                         refine zA 12 615 HT_ ?_
                                                                         refine zA 13 616 HT_ ?_
                                                                         refine zA 14 87 HT_ ?_
                                                                         refine zA 15 88 HT_ ?_
                                                                         refine zA 16 89 HT_ ?_
                                                                         refine done_ (done_of HT_.out (by kernel_rfl)) ?_
                                                                         have p506 : 0 ≤ (2 : Int) := (by omega)
                                                                         have q506 : 2 < ((rd_L2 t464 x596_7).length : Int) := of_decide_eq_true zO3_4
                                                                         obtain ⟨ad506, e506, hx506_0⟩ := Kd.at_int zO3_0 2 p506 q506
                                                                         obtain rfl : ad501 = ad506 := (by injection e506)
                                                                         (try simp only [show (2 : Int).toNat = 2 from rfl, Nat.reduceMul, Nat.reduceEqDiff, Go.Addr.add, ↓reduceIte] at hx506_0)
                                                                         have qi506 : (2 < (rd_L2 t464 x596_7).length) = True := eq_true (by omega)
                                                                         (try rw [show ((2 : Int)).toNat = 2 from rfl] at hx506_0)
                                                                         replace p506 := eq_true p506; replace q506 := eq_true q506
                                                                         try go_wp2
                                                                         go_roundg k7
                                                                         case measure => have := HJ21.out; have := HJ94.out; have := HJ167.out; have := HJ192.out; have := HJ280.out; have := HJ285.out; have := HK7.out; omega
                                                                         case rel => exact ⟨(wrap64 (x596_7 + 1)), zu, H', ⟨by have := HJ21.out; have := HJ94.out; have := HJ167.out; have := HJ192.out; have := HJ280.out; have := HJ285.out; have := HK7.out; omega⟩, ⟨by (with_reducible repeat (first | apply Kd.S_alloc | apply Kd.S_drewN | apply Kd.S_drew)); exact HO_594.out⟩, zk BK386, zk BK477, zk BK489, ⟨zy HB⟩⟩
                                                                      · rw [if_neg c307] at H
                                                                        have c307b0 : (t503 == (rd (rd_L2 t464 x596_7) 2)) = false := beq_eq_false_iff_ne.mpr c307
                                                                        have c307b1 : (t503 != (rd (rd_L2 t464 x596_7) 2)) = true := bne_iff_ne.mpr c307
                                                                        obtain rfl := Option.some.inj H
                                                                        exact absurd HR_.out (by decide)
                                                                    · rw [if_neg c306] at H
                                                                      exact absurd H (by simp)
                                                                  · rw [if_neg c305] at H
                                                                    have c305b0 : (t504 == 1) = false := beq_eq_false_iff_ne.mpr c305
                                                                    have c305b1 : (t504 != 1) = true := bne_iff_ne.mpr c305
                                                                    obtain rfl := Option.some.inj H
                                                                    exact absurd HR_.out (by decide)
                                                                · replace c304 := Bool.eq_false_iff.mpr c304
                                                                  subst c304; rw [if_neg (show ¬ (false = true) by decide)] at H
                                                                  obtain rfl := Option.some.inj H
                                                                  exact absurd HR_.out (by decide)
                                                              · rw [if_neg c302] at H
                                                                exact absurd H (by simp)
                                                            · rw [if_neg c301] at H
                                                              exact absurd H (by simp)
                                                          · rw [if_neg c300] at H
                                                            have c300b0 : (((rd_L2 t464 x596_7).length : Int) == 4) = false := beq_eq_false_iff_ne.mpr c300
                                                            have c300b1 : (((rd_L2 t464 x596_7).length : Int) != 4) = true := bne_iff_ne.mpr c300
                                                            obtain rfl := Option.some.inj H
                                                            exact absurd HR_.out (by decide)
                                                        · rw [if_neg c299] at H
                                                          exact absurd H (by simp)
                                                      · rw [if_neg c298] at H
                                                        exact absurd H (by simp)
                                                    · rw [if_neg c297] at H
                                                      have c297b0 : decide (x596_7 < (t464.length : Int)) = false := decide_eq_false c297; clear c297
                                                      (first | rw [c297b0] | (simp only [i64_w, i32_w]; rw [c297b0]) | skip)
                                                      have H' := Aside0.mk H; clear H
                                                      as_aux_lemma =>
                                                       go_wp2
                                                       go_meet
                                                       case rel => exact ⟨_, H', ⟨by have := HJ21.out; have := HJ94.out; have := HJ167.out; have := HJ192.out; have := HJ280.out; have := HJ285.out; have := HK7.out; first | omega | exact Nat.le_refl _⟩, zk BK386, zk BK477, zk BK489, ⟨zy HB⟩⟩
                                             · replace c295 := Bool.eq_false_iff.mpr c295
                                               subst c295; rw [if_neg (show ¬ (false = true) by decide)] at H; have H' := Aside0.mk H; clear H
                                               as_aux_lemma =>
                                                go_wp2
                                                go_meet
                                                case rel => exact ⟨_, H', ⟨by have := HJ21.out; have := HJ94.out; have := HJ167.out; have := HJ192.out; have := HJ280.out; have := HJ285.out; first | omega | exact Nat.le_refl _⟩, zk BK386, zk BK477, zk BK489, ⟨zy HB⟩⟩
                                           case rest =>
                                             (try clear hz385); (try clear hz430); (try clear hz436); (try clear hz442); (try clear hz443); (try clear hz386); (try clear hz477); (try clear hz483); (try clear hz489); (try clear hz495)
                                             clear HC294
                                             obtain ⟨kq, HA, HJ293, BK386, BK477, BK489, HB⟩ := hcut
                                             cases kq with
                                             | zero => exact absurd HA.out (by simp [laws_FnIslandsMeasuredOfAll.j12])
                                             | succ kj293 =>
                                               have H := HA.out; clear HA; simp only [laws_FnIslandsMeasuredOfAll.j12] at H
                                               by_cases c310 : t476 = true
                                               · subst c310
                                                 rw [if_pos rfl] at H; replace H := Option.bind_eq_some_iff.mp H; obtain ⟨⟨t507, t508, t509⟩, A3110, H⟩ := H; (try dsimp only at H); have A311 := Aside0.mk A3110; clear A3110; replace H := Option.bind_eq_some_iff.mp H; obtain ⟨⟨t510, t511, t512⟩, A3120, H⟩ := H; (try dsimp only at H); have A312 := Aside0.mk A3120; clear A3120; have HC313 := Aside0.mk H; clear H
                                                 replace hNB386_477 := NB386_477.out
                                                 replace hNB477_386 := NB477_386.out
                                                 replace hNB386_489 := NB386_489.out
                                                 replace hNB489_386 := NB489_386.out
                                                 replace hz386 := zc4 BK386
                                                 as_aux_lemma =>
                                                  go_upto_region 62 with (first | ((with_reducible refine gate_callee (f := 4) rfl ?_); refine zG (some 634) Tryd.func4 #[.agg #[.int .i64 a7_0, .int .i64 a7_1, .int .i64 a7_2, .int .i64 a7_3]] ?_; (with_reducible refine (impl_IslandHeight.calls kj293 a7_0 a7_1 a7_2 a7_3 t507 t508 t509 _ A311.out).mono ?_); rintro e w317 ⟨rfl, hb⟩; refine ⟨_, rfl, ?_⟩; replace BK386 := zb BK386 hb; replace BK477 := zb BK477 hb; replace BK489 := zb BK489 hb; replace HB := zh HB hb; clear hb; replace hNB477_489 := NB477_489.out; replace hNB489_477 := NB489_477.out; replace hz477 := zc4 BK477) | ((with_reducible refine gate_callee (f := 4) rfl ?_); refine zG (some 640) Tryd.func4 #[.agg #[.int .i64 t472, .int .i64 t473, .int .i64 t474, .int .i64 t475]] ?_; (with_reducible refine (impl_IslandHeight.calls kj293 t472 t473 t474 t475 t510 t511 t512 _ A312.out).mono ?_); rintro e w320 ⟨rfl, hb⟩; refine ⟨_, rfl, ?_⟩; replace BK386 := zb BK386 hb; replace BK477 := zb BK477 hb; replace BK489 := zb BK489 hb; replace HB := zh HB hb; clear hb))
                                                  (try simp only [Act.put, List.setIfInBounds_toArray, List.set_cons_zero, List.set_cons_succ])
                                                  go_cut [660] from 631 to 643 (fun v660 wc => ∃ (kq : Nat) (x660_312 : Bool), v660 = .bool x660_312 ∧ Aside0 (laws_FnIslandsMeasuredOfAll.j13 kq a9 t488 x660_312 t484 t485 t486 t487 = some r) ∧ Aside0 (kq ≤ kj293) ∧ Aside0 (wc.heap[gb489]? = some (.cells #[.int .i64 t484, .int .i64 t485, .int .i64 t486, .int .i64 t487] 23 (0, 0))) ∧ Aside0 (Below w.heap.size w wc))
                                                  case first =>
                                                    have H := HC313.out; clear HC313
                                                    by_cases c321 : t509 = true
                                                    · subst c321
                                                      rw [if_pos rfl] at H
                                                      by_cases c322 : t512 = true
                                                      · subst c322
                                                        rw [if_pos rfl] at H; have H' := Aside0.mk H; clear H
                                                        as_aux_lemma =>
                                                         go_wp2
                                                         go_meet
                                                         case rel => exact ⟨_, (((wrap64 (t510 * t508)) != (wrap64 ((wrap64 (a8 * t507)) * t511)))), zu, H', ⟨by have := HJ21.out; have := HJ94.out; have := HJ167.out; have := HJ192.out; have := HJ280.out; have := HJ285.out; have := HJ293.out; first | omega | exact Nat.le_refl _⟩, zk BK489, ⟨zy HB⟩⟩
                                                      · replace c322 := Bool.eq_false_iff.mpr c322
                                                        subst c322; rw [if_neg (show ¬ (false = true) by decide)] at H
                                                        exact absurd (HR_.out.symm.trans (laws_FnIslandsMeasuredOfAll.j13_true _ _ _ _ _ _ _ _ H)) (by decide)
                                                    · replace c321 := Bool.eq_false_iff.mpr c321
                                                      subst c321; rw [if_neg (show ¬ (false = true) by decide)] at H
                                                      exact absurd (HR_.out.symm.trans (laws_FnIslandsMeasuredOfAll.j13_true _ _ _ _ _ _ _ _ H)) (by decide)
                                                  case rest =>
                                                    (try clear hz385); (try clear hz430); (try clear hz436); (try clear hz442); (try clear hz443); (try clear hz386); (try clear hz477); (try clear hz483); (try clear hz489); (try clear hz495)
                                                    clear HC313
                                                    obtain ⟨kq, x660_312, rfl, HA, HJ312, BK489, HB⟩ := hcut
                                                    cases kq with
                                                    | zero => exact absurd HA.out (by simp [laws_FnIslandsMeasuredOfAll.j13])
                                                    | succ kj312 =>
                                                      have H := HA.out; clear HA; simp only [laws_FnIslandsMeasuredOfAll.j13] at H
                                                      by_cases c323 : x660_312 = true
                                                      · subst c323
                                                        rw [if_pos rfl] at H
                                                        obtain rfl := Option.some.inj H
                                                        exact absurd HR_.out (by decide)
                                                      · replace c323 := Bool.eq_false_iff.mpr c323
                                                        subst c323; rw [if_neg (show ¬ (false = true) by decide)] at H
                                                        by_cases c324 : t488 = true
                                                        · subst c324
                                                          rw [if_pos rfl] at H; replace H := Option.bind_eq_some_iff.mp H; obtain ⟨⟨t513, t514⟩, A3250, H⟩ := H
                                                          replace H : (if t514 = true then (some (t513.toList == a9.toList)) else (some false)) = some r := H
                                                          have A325 := Aside0.mk A3250; clear A3250
                                                          by_cases c326 : t514 = true
                                                          · subst c326
                                                            rw [if_pos rfl] at H
                                                            obtain rfl := Option.some.inj H
                                                            replace hz489 := zc4 BK489
                                                            as_aux_lemma =>
                                                             go_wp2_with (first | ((with_reducible refine gate_callee (f := 10) rfl ?_); refine zG (some 664) Tryd.func10 #[.agg #[.int .i64 t484, .int .i64 t485, .int .i64 t486, .int .i64 t487]] ?_; (with_reducible refine (impl_IslandText.calls t484 t485 t486 t487 t513 true _ (LaidP.below HL_.out.p (zy HB)) A325.out).mono ?_); rintro e w328 ⟨rfl, hb⟩; refine ⟨_, rfl, ?_⟩; replace BK489 := zb BK489 hb; replace HB := zh HB hb; clear hb))
                                                             go_ret
                                                             exact ⟨zt, zy HB⟩
                                                          · replace c326 := Bool.eq_false_iff.mpr c326
                                                            subst c326; rw [if_neg (show ¬ (false = true) by decide)] at H
                                                            obtain rfl := Option.some.inj H
                                                            exact absurd HR_.out (by decide)
                                                        · replace c324 := Bool.eq_false_iff.mpr c324
                                                          subst c324; rw [if_neg (show ¬ (false = true) by decide)] at H
                                                          obtain rfl := Option.some.inj H
                                                          as_aux_lemma =>
                                                           go_wp2
                                                           go_ret
                                                           exact ⟨zt, zy HB⟩
                                               · replace c310 := Bool.eq_false_iff.mpr c310
                                                 subst c310; rw [if_neg (show ¬ (false = true) by decide)] at H
                                                 by_cases c329 : t488 = true
                                                 · subst c329
                                                   rw [if_pos rfl] at H; replace H := Option.bind_eq_some_iff.mp H; obtain ⟨⟨t515, t516⟩, A3300, H⟩ := H
                                                   replace H : (if t516 = true then (some (t515.toList == a9.toList)) else (some false)) = some r := H
                                                   have A330 := Aside0.mk A3300; clear A3300
                                                   by_cases c331 : t516 = true
                                                   · subst c331
                                                     rw [if_pos rfl] at H
                                                     obtain rfl := Option.some.inj H
                                                     replace hNB489_386 := NB489_386.out
                                                     replace hNB386_489 := NB386_489.out
                                                     replace hNB489_477 := NB489_477.out
                                                     replace hNB477_489 := NB477_489.out
                                                     replace hz489 := zc4 BK489
                                                     as_aux_lemma =>
                                                      go_wp2_with (first | ((with_reducible refine gate_callee (f := 10) rfl ?_); refine zG (some 664) Tryd.func10 #[.agg #[.int .i64 t484, .int .i64 t485, .int .i64 t486, .int .i64 t487]] ?_; (with_reducible refine (impl_IslandText.calls t484 t485 t486 t487 t515 true _ (LaidP.below HL_.out.p (zy HB)) A330.out).mono ?_); rintro e w335 ⟨rfl, hb⟩; refine ⟨_, rfl, ?_⟩; replace BK386 := zb BK386 hb; replace BK477 := zb BK477 hb; replace BK489 := zb BK489 hb; replace HB := zh HB hb; clear hb))
                                                      go_ret
                                                      exact ⟨zt, zy HB⟩
                                                   · replace c331 := Bool.eq_false_iff.mpr c331
                                                     subst c331; rw [if_neg (show ¬ (false = true) by decide)] at H
                                                     obtain rfl := Option.some.inj H
                                                     exact absurd HR_.out (by decide)
                                                 · replace c329 := Bool.eq_false_iff.mpr c329
                                                   subst c329; rw [if_neg (show ¬ (false = true) by decide)] at H
                                                   obtain rfl := Option.some.inj H
                                                   as_aux_lemma =>
                                                    go_wp2
                                                    go_ret
                                                    exact ⟨zt, zy HB⟩

end Go.Proofs.YtakodhlaphloeaaDoor.P
