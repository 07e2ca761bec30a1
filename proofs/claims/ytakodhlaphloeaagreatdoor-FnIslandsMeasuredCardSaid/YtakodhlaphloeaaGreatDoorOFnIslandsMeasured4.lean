/- The law FnIslandsMeasured is proved: a call of it returns true and leaves its arguments as they were; and what this needs. Every input that the given rows speak of; nothing else is asked. -/
import Derived.Test.YtakodhlaphloeaaGreatDoorOFnIslandsMeasured0
import Derived.Test.YtakodhlaphloeaaGreatDoorOFnIslandsMeasured1
import Derived.Test.YtakodhlaphloeaaGreatDoorOFnIslandsMeasured2
import Derived.Test.YtakodhlaphloeaaGreatDoorOFnIslandsMeasured3
namespace Go.Proofs.YtakodhlaphloeaaGreatDoor.P
open Go.RowKit Go.Proofs.YtakodhlaphloeaaGreatDoorW.PrintWords Go.Proofs.YtakodhlaphloeaaGreatDoorW.PrintLast Go.Proofs.YtakodhlaphloeaaGreatDoorW.PrintMore
set_option linter.unusedVariables false
theorem zO4_0 {p : Prop} (h : p := by repeat (first | (with_reducible exact HR675_0.out) | (with_reducible refine Kd.C_alloc ?_ _) | (with_reducible refine Kd.C_drewN ?_ _) | (with_reducible refine Kd.C_drew ?_) | exact HR675_0.out)) : p := h
theorem zO4_1 {p : Prop} (h : p := by (try simp only [List.map_toArray, List.map_cons, List.map_nil]); first | done | rfl | (simp only [List.length_drop, List.length_take]; rfl)) : p := h
theorem zO4_2 {p : Prop} (h : p := by (with_reducible repeat (first | apply Kd.S_alloc | apply Kd.S_drewN | apply Kd.S_drew)); exact HO635.out) : p := h
theorem zO4_3 {p : Prop} (h : p := by (with_reducible repeat (first | apply Kd.S_alloc | apply Kd.S_drewN | apply Kd.S_drew)); exact HO639.out) : p := h
theorem zO4_4 {p : Prop} (h : p := by first | (with_reducible assumption) | assumption) : p := h
end Go.Proofs.YtakodhlaphloeaaGreatDoor.P
namespace Go.Proofs.YtakodhlaphloeaaGreatDoor.P
open Go.RowKit Go.Proofs.YtakodhlaphloeaaGreatDoorW.PrintWords Go.Proofs.YtakodhlaphloeaaGreatDoorW.PrintLast Go.Proofs.YtakodhlaphloeaaGreatDoorW.PrintMore
attribute [local go_sem] max2_int min2_int max_two min_two max_three min_three max_four min_four   -- for this text's walks alone
set_option linter.unusedVariables false
set_option linter.unusedSimpArgs false

attribute [local go_sem high] eqA25
/-! ### laws_FnIslandsMeasured: function 3 -/
attribute [local go_sem] zset2
attribute [local go_sem high] zcellD zfrozenD
attribute [local simp high] zcellD zfrozenD
mutual
def laws_FnIslandsMeasured.j0 : Nat → List Int → Int → Int → Bool → Int → Int → Int → Int → Bool → ByteArray → Bool → Int → Int → Int → Int → Option (Bool)
  | 0, _, _, _, _, _, _, _, _, _, _, _, _, _, _, _ => none
  | k + 1, x1, x6, x7, x8, x12, x13, x18, x19, x20, x24, x231, x549000, x549001, x549002, x549003 => if x231 = true then (some false) else (if x8 = true then ((laws_yLow.f k x6 x7).bind fun t574 => (if t574 = true then ((laws_yLow.f k x12 x13).bind fun t575 => (if t575 = true then (if (wrap64 ((wrap64 ((wrap64 (x6 - (wrap64 (x549000 * x7)))) * x549002)) * x13)) = (wrap64 ((wrap64 (x549000 * x12)) * x7)) then (laws_FnIslandsMeasured.j1 k x1 x6 x7 x12 x13 x18 x19 x20 x24 ((wrap64 ((wrap64 ((wrap64 (x6 - (wrap64 (x549000 * x7)))) * x549003)) * x13)) != (wrap64 ((wrap64 (x549000 * x7)) * (wrap64 (x12 + (wrap64 (x549001 * x13))))))) x549000 x549001 x549002 x549003) else (laws_FnIslandsMeasured.j1 k x1 x6 x7 x12 x13 x18 x19 x20 x24 true x549000 x549001 x549002 x549003)) else (laws_FnIslandsMeasured.j1 k x1 x6 x7 x12 x13 x18 x19 x20 x24 true x549000 x549001 x549002 x549003))) else (laws_FnIslandsMeasured.j1 k x1 x6 x7 x12 x13 x18 x19 x20 x24 true x549000 x549001 x549002 x549003))) else (laws_FnIslandsMeasured.j6 k x1 x6 x7 x18 x19 x20 x549000 x549001 x549002 x549003))
def laws_FnIslandsMeasured.j6 : Nat → List Int → Int → Int → Int → Int → Bool → Int → Int → Int → Int → Option (Bool)
  | 0, _, _, _, _, _, _, _, _, _, _ => none
  | k + 1, x1, x6, x7, x18, x19, x20, x549000, x549001, x549002, x549003 => if x20 = true then ((impl_IslandHeight.f k x549000 x549001 x549002 (wrap64 (x549003 - 1))).bind fun bt606 => (if bt606.2.2 = true then ((laws_yLow.f k x18 x19).bind fun t609 => (if t609 = true then (if x18 < 1 then (some false) else (if (wrap64 ((wrap64 ((wrap64 (bt606.1 * x7)) - (wrap64 (x6 * bt606.2.1)))) * x19)) = (wrap64 ((wrap64 (x18 * bt606.2.1)) * x7)) then (laws_FnIslandsMeasured.j7 k x1) else (some false))) else (some false))) else (some false))) else (laws_FnIslandsMeasured.j7 k x1)
def laws_FnIslandsMeasured.j7 : Nat → List Int → Option (Bool)
  | 0, _ => none
  | k + 1, x1 => (spec_DrawSecondStep.f x1).bind fun bt610 => ((impl_SecondStep.f k bt610.1 bt610.2.1 bt610.2.2.1 bt610.2.2.2).bind fun bt614 => ((spec_SecondStep.f k bt610.1 bt610.2.1 bt610.2.2.1 bt610.2.2.2).bind fun bt617 => ((impl_StepsForIsland.f k bt610.1 bt610.2.1 bt610.2.2.1 bt610.2.2.2).bind fun bt620 => ((spec_StepsForIsland.f k bt610.1 bt610.2.1 bt610.2.2.1 bt610.2.2.2).bind fun bt625 => ((spec_DrawWholeIslands.f x1).bind fun bt630 => ((impl_WholeIslands.f k bt630.1 bt630.2).bind fun bt632 => ((spec_WholeIslands.f k bt630.1 bt630.2).bind fun bt636 => ((spec_DrawTimesIsland.f x1).bind fun bt640 => ((impl_TimesIsland.f bt640.1 bt640.2.1 bt640.2.2.1 bt640.2.2.2.1 bt640.2.2.2.2).bind fun bt646 => ((spec_TimesIsland.f k bt640.1 bt640.2.1 bt640.2.2.1 bt640.2.2.2.1 bt640.2.2.2.2).bind fun bt652 => ((spec_DrawParseIsland.f k x1).bind fun t658 => ((impl_ParseIsland.f t658).bind fun bt659 => ((spec_ParseIsland.f k t658).bind fun bt665 => (if (bt614.2.2 != bt617.2.2) = true then (laws_FnIslandsMeasured.j8 k bt610.2.2.1 bt614.1 bt614.2.1 bt614.2.2 bt620.1 bt620.2.1 bt620.2.2.1 bt620.2.2.2.1 bt620.2.2.2.2 bt630.1 bt630.2 bt632.1 bt632.2 bt640.2.2.2.2 bt646.2.2.2.2 t658 bt659.2.2.2.2 true bt640.1 bt640.2.1 bt640.2.2.1 bt640.2.2.2.1 bt646.1 bt646.2.1 bt646.2.2.1 bt646.2.2.2.1 bt659.1 bt659.2.1 bt659.2.2.1 bt659.2.2.2.1) else (if bt614.1 = bt617.1 then (if bt614.2.1 = bt617.2.1 then (if (bt620.2.2.2.2 != bt625.2.2.2.2) = true then (laws_FnIslandsMeasured.j8 k bt610.2.2.1 bt614.1 bt614.2.1 bt614.2.2 bt620.1 bt620.2.1 bt620.2.2.1 bt620.2.2.2.1 bt620.2.2.2.2 bt630.1 bt630.2 bt632.1 bt632.2 bt640.2.2.2.2 bt646.2.2.2.2 t658 bt659.2.2.2.2 true bt640.1 bt640.2.1 bt640.2.2.1 bt640.2.2.2.1 bt646.1 bt646.2.1 bt646.2.2.1 bt646.2.2.2.1 bt659.1 bt659.2.1 bt659.2.2.1 bt659.2.2.2.1) else (if bt620.1 = bt625.1 then (if bt620.2.1 = bt625.2.1 then (if bt620.2.2.1 = bt625.2.2.1 then (if bt620.2.2.2.1 = bt625.2.2.2.1 then (if (bt632.2 != bt636.2) = true then (laws_FnIslandsMeasured.j8 k bt610.2.2.1 bt614.1 bt614.2.1 bt614.2.2 bt620.1 bt620.2.1 bt620.2.2.1 bt620.2.2.2.1 bt620.2.2.2.2 bt630.1 bt630.2 bt632.1 bt632.2 bt640.2.2.2.2 bt646.2.2.2.2 t658 bt659.2.2.2.2 true bt640.1 bt640.2.1 bt640.2.2.1 bt640.2.2.2.1 bt646.1 bt646.2.1 bt646.2.2.1 bt646.2.2.2.1 bt659.1 bt659.2.1 bt659.2.2.1 bt659.2.2.2.1) else ((laws_yRows.f k bt632.1 bt636.1).bind fun t671 => (if t671 = true then (if (bt646.2.2.2.2 != bt652.2.2.2.2) = true then (laws_FnIslandsMeasured.j8 k bt610.2.2.1 bt614.1 bt614.2.1 bt614.2.2 bt620.1 bt620.2.1 bt620.2.2.1 bt620.2.2.2.1 bt620.2.2.2.2 bt630.1 bt630.2 bt632.1 bt632.2 bt640.2.2.2.2 bt646.2.2.2.2 t658 bt659.2.2.2.2 true bt640.1 bt640.2.1 bt640.2.2.1 bt640.2.2.2.1 bt646.1 bt646.2.1 bt646.2.2.1 bt646.2.2.2.1 bt659.1 bt659.2.1 bt659.2.2.1 bt659.2.2.2.1) else (if (!(bt646.1 == bt652.1) || (!(bt646.2.1 == bt652.2.1) || (!(bt646.2.2.1 == bt652.2.2.1) || (!(bt646.2.2.2.1 == bt652.2.2.2.1))))) = true then (laws_FnIslandsMeasured.j8 k bt610.2.2.1 bt614.1 bt614.2.1 bt614.2.2 bt620.1 bt620.2.1 bt620.2.2.1 bt620.2.2.2.1 bt620.2.2.2.2 bt630.1 bt630.2 bt632.1 bt632.2 bt640.2.2.2.2 bt646.2.2.2.2 t658 bt659.2.2.2.2 true bt640.1 bt640.2.1 bt640.2.2.1 bt640.2.2.2.1 bt646.1 bt646.2.1 bt646.2.2.1 bt646.2.2.2.1 bt659.1 bt659.2.1 bt659.2.2.1 bt659.2.2.2.1) else (if (bt659.2.2.2.2 != bt665.2.2.2.2) = true then (laws_FnIslandsMeasured.j8 k bt610.2.2.1 bt614.1 bt614.2.1 bt614.2.2 bt620.1 bt620.2.1 bt620.2.2.1 bt620.2.2.2.1 bt620.2.2.2.2 bt630.1 bt630.2 bt632.1 bt632.2 bt640.2.2.2.2 bt646.2.2.2.2 t658 bt659.2.2.2.2 true bt640.1 bt640.2.1 bt640.2.2.1 bt640.2.2.2.1 bt646.1 bt646.2.1 bt646.2.2.1 bt646.2.2.2.1 bt659.1 bt659.2.1 bt659.2.2.1 bt659.2.2.2.1) else (laws_FnIslandsMeasured.j8 k bt610.2.2.1 bt614.1 bt614.2.1 bt614.2.2 bt620.1 bt620.2.1 bt620.2.2.1 bt620.2.2.2.1 bt620.2.2.2.2 bt630.1 bt630.2 bt632.1 bt632.2 bt640.2.2.2.2 bt646.2.2.2.2 t658 bt659.2.2.2.2 (!(bt659.1 == bt665.1) || (!(bt659.2.1 == bt665.2.1) || (!(bt659.2.2.1 == bt665.2.2.1) || (!(bt659.2.2.2.1 == bt665.2.2.2.1))))) bt640.1 bt640.2.1 bt640.2.2.1 bt640.2.2.2.1 bt646.1 bt646.2.1 bt646.2.2.1 bt646.2.2.2.1 bt659.1 bt659.2.1 bt659.2.2.1 bt659.2.2.2.1)))) else (laws_FnIslandsMeasured.j8 k bt610.2.2.1 bt614.1 bt614.2.1 bt614.2.2 bt620.1 bt620.2.1 bt620.2.2.1 bt620.2.2.2.1 bt620.2.2.2.2 bt630.1 bt630.2 bt632.1 bt632.2 bt640.2.2.2.2 bt646.2.2.2.2 t658 bt659.2.2.2.2 true bt640.1 bt640.2.1 bt640.2.2.1 bt640.2.2.2.1 bt646.1 bt646.2.1 bt646.2.2.1 bt646.2.2.2.1 bt659.1 bt659.2.1 bt659.2.2.1 bt659.2.2.2.1)))) else (laws_FnIslandsMeasured.j8 k bt610.2.2.1 bt614.1 bt614.2.1 bt614.2.2 bt620.1 bt620.2.1 bt620.2.2.1 bt620.2.2.2.1 bt620.2.2.2.2 bt630.1 bt630.2 bt632.1 bt632.2 bt640.2.2.2.2 bt646.2.2.2.2 t658 bt659.2.2.2.2 true bt640.1 bt640.2.1 bt640.2.2.1 bt640.2.2.2.1 bt646.1 bt646.2.1 bt646.2.2.1 bt646.2.2.2.1 bt659.1 bt659.2.1 bt659.2.2.1 bt659.2.2.2.1)) else (laws_FnIslandsMeasured.j8 k bt610.2.2.1 bt614.1 bt614.2.1 bt614.2.2 bt620.1 bt620.2.1 bt620.2.2.1 bt620.2.2.2.1 bt620.2.2.2.2 bt630.1 bt630.2 bt632.1 bt632.2 bt640.2.2.2.2 bt646.2.2.2.2 t658 bt659.2.2.2.2 true bt640.1 bt640.2.1 bt640.2.2.1 bt640.2.2.2.1 bt646.1 bt646.2.1 bt646.2.2.1 bt646.2.2.2.1 bt659.1 bt659.2.1 bt659.2.2.1 bt659.2.2.2.1)) else (laws_FnIslandsMeasured.j8 k bt610.2.2.1 bt614.1 bt614.2.1 bt614.2.2 bt620.1 bt620.2.1 bt620.2.2.1 bt620.2.2.2.1 bt620.2.2.2.2 bt630.1 bt630.2 bt632.1 bt632.2 bt640.2.2.2.2 bt646.2.2.2.2 t658 bt659.2.2.2.2 true bt640.1 bt640.2.1 bt640.2.2.1 bt640.2.2.2.1 bt646.1 bt646.2.1 bt646.2.2.1 bt646.2.2.2.1 bt659.1 bt659.2.1 bt659.2.2.1 bt659.2.2.2.1)) else (laws_FnIslandsMeasured.j8 k bt610.2.2.1 bt614.1 bt614.2.1 bt614.2.2 bt620.1 bt620.2.1 bt620.2.2.1 bt620.2.2.2.1 bt620.2.2.2.2 bt630.1 bt630.2 bt632.1 bt632.2 bt640.2.2.2.2 bt646.2.2.2.2 t658 bt659.2.2.2.2 true bt640.1 bt640.2.1 bt640.2.2.1 bt640.2.2.2.1 bt646.1 bt646.2.1 bt646.2.2.1 bt646.2.2.2.1 bt659.1 bt659.2.1 bt659.2.2.1 bt659.2.2.2.1))) else (laws_FnIslandsMeasured.j8 k bt610.2.2.1 bt614.1 bt614.2.1 bt614.2.2 bt620.1 bt620.2.1 bt620.2.2.1 bt620.2.2.2.1 bt620.2.2.2.2 bt630.1 bt630.2 bt632.1 bt632.2 bt640.2.2.2.2 bt646.2.2.2.2 t658 bt659.2.2.2.2 true bt640.1 bt640.2.1 bt640.2.2.1 bt640.2.2.2.1 bt646.1 bt646.2.1 bt646.2.2.1 bt646.2.2.2.1 bt659.1 bt659.2.1 bt659.2.2.1 bt659.2.2.2.1)) else (laws_FnIslandsMeasured.j8 k bt610.2.2.1 bt614.1 bt614.2.1 bt614.2.2 bt620.1 bt620.2.1 bt620.2.2.1 bt620.2.2.2.1 bt620.2.2.2.2 bt630.1 bt630.2 bt632.1 bt632.2 bt640.2.2.2.2 bt646.2.2.2.2 t658 bt659.2.2.2.2 true bt640.1 bt640.2.1 bt640.2.2.1 bt640.2.2.2.1 bt646.1 bt646.2.1 bt646.2.2.1 bt646.2.2.2.1 bt659.1 bt659.2.1 bt659.2.2.1 bt659.2.2.2.1))))))))))))))))
def laws_FnIslandsMeasured.j8 : Nat → Int → Int → Int → Bool → Int → Int → Int → Int → Bool → Int → Int → List (List Int) → Bool → Int → Bool → ByteArray → Bool → Bool → Int → Int → Int → Int → Int → Int → Int → Int → Int → Int → Int → Int → Option (Bool)
  | 0, _, _, _, _, _, _, _, _, _, _, _, _, _, _, _, _, _, _, _, _, _, _, _, _, _, _, _, _, _, _ => none
  | k + 1, x44, x46, x47, x48, x52, x53, x54, x55, x56, x62, x63, x64, x65, x69, x71, x74, x76, x567, x646000, x646001, x646002, x646003, x652000, x652001, x652002, x652003, x665000, x665001, x665002, x665003 => if x567 = true then (some false) else (if x48 = true then ((laws_yLow.f k x46 x47).bind fun t672 => (if t672 = true then (laws_FnIslandsMeasured.j9 k x52 x53 x54 x55 x56 x62 x63 x64 x65 x69 x71 x74 x76 (decide (x46 ≤ (wrap64 (x44 * x47)))) x646000 x646001 x646002 x646003 x652000 x652001 x652002 x652003 x665000 x665001 x665002 x665003) else (laws_FnIslandsMeasured.j9 k x52 x53 x54 x55 x56 x62 x63 x64 x65 x69 x71 x74 x76 true x646000 x646001 x646002 x646003 x652000 x652001 x652002 x652003 x665000 x665001 x665002 x665003))) else (laws_FnIslandsMeasured.j9 k x52 x53 x54 x55 x56 x62 x63 x64 x65 x69 x71 x74 x76 false x646000 x646001 x646002 x646003 x652000 x652001 x652002 x652003 x665000 x665001 x665002 x665003))
def laws_FnIslandsMeasured.j9 : Nat → Int → Int → Int → Int → Bool → Int → Int → List (List Int) → Bool → Int → Bool → ByteArray → Bool → Bool → Int → Int → Int → Int → Int → Int → Int → Int → Int → Int → Int → Int → Option (Bool)
  | 0, _, _, _, _, _, _, _, _, _, _, _, _, _, _, _, _, _, _, _, _, _, _, _, _, _, _ => none
  | k + 1, x52, x53, x54, x55, x56, x62, x63, x64, x65, x69, x71, x74, x76, x581, x646000, x646001, x646002, x646003, x652000, x652001, x652002, x652003, x665000, x665001, x665002, x665003 => if x581 = true then (some false) else (if x56 = true then ((laws_yLow.f k x52 x53).bind fun t673 => (if t673 = true then ((laws_yLow.f k x54 x55).bind fun t674 => (if t674 = true then (if x52 < 1 then (laws_FnIslandsMeasured.j10 k x62 x63 x64 x65 x69 x71 x74 x76 true x646000 x646001 x646002 x646003 x652000 x652001 x652002 x652003 x665000 x665001 x665002 x665003) else (laws_FnIslandsMeasured.j10 k x62 x63 x64 x65 x69 x71 x74 x76 (decide ((wrap64 (x54 * x53)) ≤ (wrap64 (x52 * x55)))) x646000 x646001 x646002 x646003 x652000 x652001 x652002 x652003 x665000 x665001 x665002 x665003)) else (laws_FnIslandsMeasured.j10 k x62 x63 x64 x65 x69 x71 x74 x76 true x646000 x646001 x646002 x646003 x652000 x652001 x652002 x652003 x665000 x665001 x665002 x665003))) else (laws_FnIslandsMeasured.j10 k x62 x63 x64 x65 x69 x71 x74 x76 true x646000 x646001 x646002 x646003 x652000 x652001 x652002 x652003 x665000 x665001 x665002 x665003))) else (laws_FnIslandsMeasured.j10 k x62 x63 x64 x65 x69 x71 x74 x76 false x646000 x646001 x646002 x646003 x652000 x652001 x652002 x652003 x665000 x665001 x665002 x665003))
def laws_FnIslandsMeasured.j10 : Nat → Int → Int → List (List Int) → Bool → Int → Bool → ByteArray → Bool → Bool → Int → Int → Int → Int → Int → Int → Int → Int → Int → Int → Int → Int → Option (Bool)
  | 0, _, _, _, _, _, _, _, _, _, _, _, _, _, _, _, _, _, _, _, _, _ => none
  | k + 1, x62, x63, x64, x65, x69, x71, x74, x76, x607, x646000, x646001, x646002, x646003, x652000, x652001, x652002, x652003, x665000, x665001, x665002, x665003 => if x607 = true then (some false) else (if x65 = true then (laws_FnIslandsMeasured.l0 k x62 x63 x69 x71 x74 x76 x64 (x64.length : Int) 0 x646000 x646001 x646002 x646003 x652000 x652001 x652002 x652003 x665000 x665001 x665002 x665003) else (laws_FnIslandsMeasured.j12 k x69 x71 x74 x76 x646000 x646001 x646002 x646003 x652000 x652001 x652002 x652003 x665000 x665001 x665002 x665003))
def laws_FnIslandsMeasured.j12 : Nat → Int → Bool → ByteArray → Bool → Int → Int → Int → Int → Int → Int → Int → Int → Int → Int → Int → Int → Option (Bool)
  | 0, _, _, _, _, _, _, _, _, _, _, _, _, _, _, _, _ => none
  | k + 1, x69, x71, x74, x76, x646000, x646001, x646002, x646003, x652000, x652001, x652002, x652003, x665000, x665001, x665002, x665003 => if x71 = true then ((impl_IslandHeight.f k x646000 x646001 x646002 x646003).bind fun bt682 => ((impl_IslandHeight.f k x652000 x652001 x652002 x652003).bind fun bt685 => (if bt682.2.2 = true then (if bt685.2.2 = true then (laws_FnIslandsMeasured.j13 k x74 x76 ((wrap64 (bt685.1 * bt682.2.1)) != (wrap64 ((wrap64 (x69 * bt682.1)) * bt685.2.1))) x665000 x665001 x665002 x665003) else (laws_FnIslandsMeasured.j13 k x74 x76 true x665000 x665001 x665002 x665003)) else (laws_FnIslandsMeasured.j13 k x74 x76 true x665000 x665001 x665002 x665003)))) else (if x76 = true then ((impl_IslandText.f x665000 x665001 x665002 x665003).bind fun bt690 => (if bt690.2 = true then (some (bt690.1.toList == x74.toList)) else (some false))) else (some true))
def laws_FnIslandsMeasured.j13 : Nat → ByteArray → Bool → Bool → Int → Int → Int → Int → Option (Bool)
  | 0, _, _, _, _, _, _, _ => none
  | k + 1, x74, x76, x675, x665000, x665001, x665002, x665003 => if x675 = true then (some false) else (if x76 = true then ((impl_IslandText.f x665000 x665001 x665002 x665003).bind fun bt688 => (if bt688.2 = true then (some (bt688.1.toList == x74.toList)) else (some false))) else (some true))
def laws_FnIslandsMeasured.l0 : Nat → Int → Int → Int → Bool → ByteArray → Bool → List (List Int) → Int → Int → Int → Int → Int → Int → Int → Int → Int → Int → Int → Int → Int → Int → Option (Bool)
  | 0, _, _, _, _, _, _, _, _, _, _, _, _, _, _, _, _, _, _, _, _, _ => none
  | k + 1, x62, x63, x69, x71, x74, x76, x609, x610, x611, x646000, x646001, x646002, x646003, x652000, x652001, x652002, x652003, x665000, x665001, x665002, x665003 => if x611 < x610 then (if 0 ≤ x611 then (if x611 < (x609.length : Int) then (if ((rd_L2 x609 x611).length : Int) = 4 then (if 0 < ((rd_L2 x609 x611).length : Int) then (if 1 < ((rd_L2 x609 x611).length : Int) then ((impl_IslandHeight.f k x62 x63 (rd (rd_L2 x609 x611) 0) (rd (rd_L2 x609 x611) 1)).bind fun bt678 => (if bt678.2.2 = true then (if bt678.2.1 = 1 then (if 2 < ((rd_L2 x609 x611).length : Int) then (if bt678.1 = (rd (rd_L2 x609 x611) 2) then (laws_FnIslandsMeasured.l0 k x62 x63 x69 x71 x74 x76 x609 x610 (wrap64 (x611 + 1)) x646000 x646001 x646002 x646003 x652000 x652001 x652002 x652003 x665000 x665001 x665002 x665003) else (some false)) else (none)) else (some false)) else (some false))) else (none)) else (none)) else (some false)) else (none)) else (none)) else (laws_FnIslandsMeasured.j12 k x69 x71 x74 x76 x646000 x646001 x646002 x646003 x652000 x652001 x652002 x652003 x665000 x665001 x665002 x665003)
def laws_FnIslandsMeasured.j1 : Nat → List Int → Int → Int → Int → Int → Int → Int → Bool → ByteArray → Bool → Int → Int → Int → Int → Option (Bool)
  | 0, _, _, _, _, _, _, _, _, _, _, _, _, _, _ => none
  | k + 1, x1, x6, x7, x12, x13, x18, x19, x20, x24, x287, x549000, x549001, x549002, x549003 => if x287 = true then (some false) else (if x7 = 1 then (laws_FnIslandsMeasured.j2 k x1 x6 x7 x12 x13 x18 x19 x20 x24 (decide (x6 ≤ 2000)) x549000 x549001 x549002 x549003) else (laws_FnIslandsMeasured.j2 k x1 x6 x7 x12 x13 x18 x19 x20 x24 false x549000 x549001 x549002 x549003))
def laws_FnIslandsMeasured.j2 : Nat → List Int → Int → Int → Int → Int → Int → Int → Bool → ByteArray → Bool → Int → Int → Int → Int → Option (Bool)
  | 0, _, _, _, _, _, _, _, _, _, _, _, _, _, _ => none
  | k + 1, x1, x6, x7, x12, x13, x18, x19, x20, x24, x293, x549000, x549001, x549002, x549003 => if x293 = true then ((impl_SecondStep.f k x549000 x549001 x549002 x6).bind fun bt576 => (if bt576.2.2 = true then ((laws_yIs.f k bt576.1 bt576.2.1 x549003 1).bind fun t579 => (laws_FnIslandsMeasured.j3 k x1 x6 x7 x12 x13 x18 x19 x20 x24 (!t579) x549000 x549001 x549002 x549003)) else (laws_FnIslandsMeasured.j3 k x1 x6 x7 x12 x13 x18 x19 x20 x24 true x549000 x549001 x549002 x549003))) else ((impl_ParseIsland.f x24).bind fun bt599 => (if bt599.2.2.2.2 = true then (if (!(bt599.1 == x549000) || (!(bt599.2.1 == x549001) || (!(bt599.2.2.1 == x549002) || (!(bt599.2.2.2.1 == x549003))))) = true then (some false) else (laws_FnIslandsMeasured.j6 k x1 x6 x7 x18 x19 x20 x549000 x549001 x549002 x549003)) else (some false)))
def laws_FnIslandsMeasured.j3 : Nat → List Int → Int → Int → Int → Int → Int → Int → Bool → ByteArray → Bool → Int → Int → Int → Int → Option (Bool)
  | 0, _, _, _, _, _, _, _, _, _, _, _, _, _, _ => none
  | k + 1, x1, x6, x7, x12, x13, x18, x19, x20, x24, x315, x549000, x549001, x549002, x549003 => if x315 = true then (some false) else (if x13 = 1 then (laws_FnIslandsMeasured.j4 k x1 x6 x7 x12 x18 x19 x20 x24 (decide (x12 ≤ 2000)) x549000 x549001 x549002 x549003) else (laws_FnIslandsMeasured.j4 k x1 x6 x7 x12 x18 x19 x20 x24 false x549000 x549001 x549002 x549003))
def laws_FnIslandsMeasured.j4 : Nat → List Int → Int → Int → Int → Int → Int → Bool → ByteArray → Bool → Int → Int → Int → Int → Option (Bool)
  | 0, _, _, _, _, _, _, _, _, _, _, _, _, _ => none
  | k + 1, x1, x6, x7, x12, x18, x19, x20, x24, x321, x549000, x549001, x549002, x549003 => if x321 = true then ((impl_StepsForIsland.f k x549000 x549001 x6 x12).bind fun bt580 => (if bt580.2.2.2.2 = true then ((laws_yIs.f k bt580.1 bt580.2.1 x549002 1).bind fun t585 => (if t585 = true then ((laws_yIs.f k bt580.2.2.1 bt580.2.2.2.1 x549003 1).bind fun t586 => (laws_FnIslandsMeasured.j5 k x1 x6 x7 x18 x19 x20 x24 (!t586) x549000 x549001 x549002 x549003)) else (laws_FnIslandsMeasured.j5 k x1 x6 x7 x18 x19 x20 x24 true x549000 x549001 x549002 x549003))) else (laws_FnIslandsMeasured.j5 k x1 x6 x7 x18 x19 x20 x24 true x549000 x549001 x549002 x549003))) else ((impl_ParseIsland.f x24).bind fun bt593 => (if bt593.2.2.2.2 = true then (if (!(bt593.1 == x549000) || (!(bt593.2.1 == x549001) || (!(bt593.2.2.1 == x549002) || (!(bt593.2.2.2.1 == x549003))))) = true then (some false) else (laws_FnIslandsMeasured.j6 k x1 x6 x7 x18 x19 x20 x549000 x549001 x549002 x549003)) else (some false)))
def laws_FnIslandsMeasured.j5 : Nat → List Int → Int → Int → Int → Int → Bool → ByteArray → Bool → Int → Int → Int → Int → Option (Bool)
  | 0, _, _, _, _, _, _, _, _, _, _, _, _ => none
  | k + 1, x1, x6, x7, x18, x19, x20, x24, x352, x549000, x549001, x549002, x549003 => if x352 = true then (some false) else ((impl_ParseIsland.f x24).bind fun bt587 => (if bt587.2.2.2.2 = true then (if (!(bt587.1 == x549000) || (!(bt587.2.1 == x549001) || (!(bt587.2.2.1 == x549002) || (!(bt587.2.2.2.1 == x549003))))) = true then (some false) else (laws_FnIslandsMeasured.j6 k x1 x6 x7 x18 x19 x20 x549000 x549001 x549002 x549003)) else (some false)))
end
def laws_FnIslandsMeasured.f (k : Nat) (l0 : List Int) (l1 : List Int) : Option (Bool) := (laws_big.f l0 l1).bind fun t543 => (if t543 = true then (some true) else ((spec_DrawIslandHeight.f l0).bind fun bt544 => ((impl_IslandHeight.f k bt544.1 bt544.2.1 bt544.2.2.1 bt544.2.2.2).bind fun bt549 => ((spec_IslandHeight.f k bt544.1 bt544.2.1 bt544.2.2.1 bt544.2.2.2).bind fun bt552 => ((impl_IslandAway.f k bt544.1 bt544.2.1 bt544.2.2.1 bt544.2.2.2).bind fun bt555 => ((spec_IslandAway.f k bt544.1 bt544.2.1 bt544.2.2.1 bt544.2.2.2).bind fun bt558 => ((impl_HigherByStep.f k bt544.1 bt544.2.1 bt544.2.2.1 bt544.2.2.2).bind fun bt561 => ((spec_HigherByStep.f k bt544.1 bt544.2.1 bt544.2.2.1 bt544.2.2.2).bind fun bt564 => ((impl_IslandText.f bt544.1 bt544.2.1 bt544.2.2.1 bt544.2.2.2).bind fun bt567 => ((spec_IslandText.f k bt544.1 bt544.2.1 bt544.2.2.1 bt544.2.2.2).bind fun bt569 => (if (bt549.2.2 != bt552.2.2) = true then (laws_FnIslandsMeasured.j0 k l1 bt549.1 bt549.2.1 bt549.2.2 bt555.1 bt555.2.1 bt561.1 bt561.2.1 bt561.2.2 bt567.1 true bt544.1 bt544.2.1 bt544.2.2.1 bt544.2.2.2) else (if bt549.1 = bt552.1 then (if bt549.2.1 = bt552.2.1 then (if (bt555.2.2 != bt558.2.2) = true then (laws_FnIslandsMeasured.j0 k l1 bt549.1 bt549.2.1 bt549.2.2 bt555.1 bt555.2.1 bt561.1 bt561.2.1 bt561.2.2 bt567.1 true bt544.1 bt544.2.1 bt544.2.2.1 bt544.2.2.2) else (if bt555.1 = bt558.1 then (if bt555.2.1 = bt558.2.1 then (if (bt561.2.2 != bt564.2.2) = true then (laws_FnIslandsMeasured.j0 k l1 bt549.1 bt549.2.1 bt549.2.2 bt555.1 bt555.2.1 bt561.1 bt561.2.1 bt561.2.2 bt567.1 true bt544.1 bt544.2.1 bt544.2.2.1 bt544.2.2.2) else (if bt561.1 = bt564.1 then (if bt561.2.1 = bt564.2.1 then (if (bt567.2 != bt569.2) = true then (laws_FnIslandsMeasured.j0 k l1 bt549.1 bt549.2.1 bt549.2.2 bt555.1 bt555.2.1 bt561.1 bt561.2.1 bt561.2.2 bt567.1 true bt544.1 bt544.2.1 bt544.2.2.1 bt544.2.2.2) else (if bt567.1.toList = bt569.1.toList then ((impl_IsIsland.f bt544.1 bt544.2.1 bt544.2.2.1 bt544.2.2.2).bind fun t571 => (if (bt549.2.2 != t571) = true then (laws_FnIslandsMeasured.j0 k l1 bt549.1 bt549.2.1 bt549.2.2 bt555.1 bt555.2.1 bt561.1 bt561.2.1 bt561.2.2 bt567.1 true bt544.1 bt544.2.1 bt544.2.2.1 bt544.2.2.2) else ((impl_IsIsland.f bt544.1 bt544.2.1 bt544.2.2.1 bt544.2.2.2).bind fun t572 => ((spec_IsIsland.f k bt544.1 bt544.2.1 bt544.2.2.1 bt544.2.2.2).bind fun t573 => (if (t572 != t573) = true then (laws_FnIslandsMeasured.j0 k l1 bt549.1 bt549.2.1 bt549.2.2 bt555.1 bt555.2.1 bt561.1 bt561.2.1 bt561.2.2 bt567.1 true bt544.1 bt544.2.1 bt544.2.2.1 bt544.2.2.2) else (if (bt555.2.2 != bt549.2.2) = true then (laws_FnIslandsMeasured.j0 k l1 bt549.1 bt549.2.1 bt549.2.2 bt555.1 bt555.2.1 bt561.1 bt561.2.1 bt561.2.2 bt567.1 true bt544.1 bt544.2.1 bt544.2.2.1 bt544.2.2.2) else (if (bt567.2 != bt549.2.2) = true then (laws_FnIslandsMeasured.j0 k l1 bt549.1 bt549.2.1 bt549.2.2 bt555.1 bt555.2.1 bt561.1 bt561.2.1 bt561.2.2 bt567.1 true bt544.1 bt544.2.1 bt544.2.2.1 bt544.2.2.2) else (if bt549.2.2 = true then (laws_FnIslandsMeasured.j0 k l1 bt549.1 bt549.2.1 bt549.2.2 bt555.1 bt555.2.1 bt561.1 bt561.2.1 bt561.2.2 bt567.1 (bt561.2.2 != (decide ((wrap64 (bt544.2.2.2 - bt544.2.2.1)) > 1))) bt544.1 bt544.2.1 bt544.2.2.1 bt544.2.2.2) else (laws_FnIslandsMeasured.j0 k l1 bt549.1 bt549.2.1 bt549.2.2 bt555.1 bt555.2.1 bt561.1 bt561.2.1 bt561.2.2 bt567.1 (bt561.2.2 != false) bt544.1 bt544.2.1 bt544.2.2.1 bt544.2.2.2))))))))) else (laws_FnIslandsMeasured.j0 k l1 bt549.1 bt549.2.1 bt549.2.2 bt555.1 bt555.2.1 bt561.1 bt561.2.1 bt561.2.2 bt567.1 true bt544.1 bt544.2.1 bt544.2.2.1 bt544.2.2.2))) else (laws_FnIslandsMeasured.j0 k l1 bt549.1 bt549.2.1 bt549.2.2 bt555.1 bt555.2.1 bt561.1 bt561.2.1 bt561.2.2 bt567.1 true bt544.1 bt544.2.1 bt544.2.2.1 bt544.2.2.2)) else (laws_FnIslandsMeasured.j0 k l1 bt549.1 bt549.2.1 bt549.2.2 bt555.1 bt555.2.1 bt561.1 bt561.2.1 bt561.2.2 bt567.1 true bt544.1 bt544.2.1 bt544.2.2.1 bt544.2.2.2))) else (laws_FnIslandsMeasured.j0 k l1 bt549.1 bt549.2.1 bt549.2.2 bt555.1 bt555.2.1 bt561.1 bt561.2.1 bt561.2.2 bt567.1 true bt544.1 bt544.2.1 bt544.2.2.1 bt544.2.2.2)) else (laws_FnIslandsMeasured.j0 k l1 bt549.1 bt549.2.1 bt549.2.2 bt555.1 bt555.2.1 bt561.1 bt561.2.1 bt561.2.2 bt567.1 true bt544.1 bt544.2.1 bt544.2.2.1 bt544.2.2.2))) else (laws_FnIslandsMeasured.j0 k l1 bt549.1 bt549.2.1 bt549.2.2 bt555.1 bt555.2.1 bt561.1 bt561.2.1 bt561.2.2 bt567.1 true bt544.1 bt544.2.1 bt544.2.2.1 bt544.2.2.2)) else (laws_FnIslandsMeasured.j0 k l1 bt549.1 bt549.2.1 bt549.2.2 bt555.1 bt555.2.1 bt561.1 bt561.2.1 bt561.2.2 bt567.1 true bt544.1 bt544.2.1 bt544.2.2.1 bt544.2.2.2)))))))))))))
theorem laws_FnIslandsMeasured.j0_true : ∀ k x0 x1 x2 x3 x4 x5 x6 x7 x8 x9 x11 x12 x13 x14 r, laws_FnIslandsMeasured.j0 k x0 x1 x2 x3 x4 x5 x6 x7 x8 x9 true x11 x12 x13 x14 = some r → r = false := by
  intro k x0 x1 x2 x3 x4 x5 x6 x7 x8 x9 x11 x12 x13 x14 r h
  cases k with
  | zero => simp [laws_FnIslandsMeasured.j0] at h
  | succ k => simp only [laws_FnIslandsMeasured.j0, if_true] at h; exact (Option.some.inj h).symm
theorem laws_FnIslandsMeasured.j8_true : ∀ k x0 x1 x2 x3 x4 x5 x6 x7 x8 x9 x10 x11 x12 x13 x14 x15 x16 x18 x19 x20 x21 x22 x23 x24 x25 x26 x27 x28 x29 r, laws_FnIslandsMeasured.j8 k x0 x1 x2 x3 x4 x5 x6 x7 x8 x9 x10 x11 x12 x13 x14 x15 x16 true x18 x19 x20 x21 x22 x23 x24 x25 x26 x27 x28 x29 = some r → r = false := by
  intro k x0 x1 x2 x3 x4 x5 x6 x7 x8 x9 x10 x11 x12 x13 x14 x15 x16 x18 x19 x20 x21 x22 x23 x24 x25 x26 x27 x28 x29 r h
  cases k with
  | zero => simp [laws_FnIslandsMeasured.j8] at h
  | succ k => simp only [laws_FnIslandsMeasured.j8, if_true] at h; exact (Option.some.inj h).symm
theorem laws_FnIslandsMeasured.j9_true : ∀ k x0 x1 x2 x3 x4 x5 x6 x7 x8 x9 x10 x11 x12 x14 x15 x16 x17 x18 x19 x20 x21 x22 x23 x24 x25 r, laws_FnIslandsMeasured.j9 k x0 x1 x2 x3 x4 x5 x6 x7 x8 x9 x10 x11 x12 true x14 x15 x16 x17 x18 x19 x20 x21 x22 x23 x24 x25 = some r → r = false := by
  intro k x0 x1 x2 x3 x4 x5 x6 x7 x8 x9 x10 x11 x12 x14 x15 x16 x17 x18 x19 x20 x21 x22 x23 x24 x25 r h
  cases k with
  | zero => simp [laws_FnIslandsMeasured.j9] at h
  | succ k => simp only [laws_FnIslandsMeasured.j9, if_true] at h; exact (Option.some.inj h).symm
theorem laws_FnIslandsMeasured.j10_true : ∀ k x0 x1 x2 x3 x4 x5 x6 x7 x9 x10 x11 x12 x13 x14 x15 x16 x17 x18 x19 x20 r, laws_FnIslandsMeasured.j10 k x0 x1 x2 x3 x4 x5 x6 x7 true x9 x10 x11 x12 x13 x14 x15 x16 x17 x18 x19 x20 = some r → r = false := by
  intro k x0 x1 x2 x3 x4 x5 x6 x7 x9 x10 x11 x12 x13 x14 x15 x16 x17 x18 x19 x20 r h
  cases k with
  | zero => simp [laws_FnIslandsMeasured.j10] at h
  | succ k => simp only [laws_FnIslandsMeasured.j10, if_true] at h; exact (Option.some.inj h).symm
theorem laws_FnIslandsMeasured.j13_true : ∀ k x0 x1 x3 x4 x5 x6 r, laws_FnIslandsMeasured.j13 k x0 x1 true x3 x4 x5 x6 = some r → r = false := by
  intro k x0 x1 x3 x4 x5 x6 r h
  cases k with
  | zero => simp [laws_FnIslandsMeasured.j13] at h
  | succ k => simp only [laws_FnIslandsMeasured.j13, if_true] at h; exact (Option.some.inj h).symm
theorem laws_FnIslandsMeasured.j1_true : ∀ k x0 x1 x2 x3 x4 x5 x6 x7 x8 x10 x11 x12 x13 r, laws_FnIslandsMeasured.j1 k x0 x1 x2 x3 x4 x5 x6 x7 x8 true x10 x11 x12 x13 = some r → r = false := by
  intro k x0 x1 x2 x3 x4 x5 x6 x7 x8 x10 x11 x12 x13 r h
  cases k with
  | zero => simp [laws_FnIslandsMeasured.j1] at h
  | succ k => simp only [laws_FnIslandsMeasured.j1, if_true] at h; exact (Option.some.inj h).symm
theorem laws_FnIslandsMeasured.j3_true : ∀ k x0 x1 x2 x3 x4 x5 x6 x7 x8 x10 x11 x12 x13 r, laws_FnIslandsMeasured.j3 k x0 x1 x2 x3 x4 x5 x6 x7 x8 true x10 x11 x12 x13 = some r → r = false := by
  intro k x0 x1 x2 x3 x4 x5 x6 x7 x8 x10 x11 x12 x13 r h
  cases k with
  | zero => simp [laws_FnIslandsMeasured.j3] at h
  | succ k => simp only [laws_FnIslandsMeasured.j3, if_true] at h; exact (Option.some.inj h).symm
theorem laws_FnIslandsMeasured.j5_true : ∀ k x0 x1 x2 x3 x4 x5 x6 x8 x9 x10 x11 r, laws_FnIslandsMeasured.j5 k x0 x1 x2 x3 x4 x5 x6 true x8 x9 x10 x11 = some r → r = false := by
  intro k x0 x1 x2 x3 x4 x5 x6 x8 x9 x10 x11 r h
  cases k with
  | zero => simp [laws_FnIslandsMeasured.j5] at h
  | succ k => simp only [laws_FnIslandsMeasured.j5, if_true] at h; exact (Option.some.inj h).symm
def laws_FnIslandsMeasured.T12 : Bool × List (List Nat × List Nat) := (true, [([], []), ([], []), ([0, 1], [0, 1]), ([2], [2]), ([3], [3]), ([3], [3]), ([4, 5, 3], [3, 4, 5]), ([3, 6], [3, 6]), ([7, 3], [7]), ([8], [8]), ([8], [8]), ([9, 10, 8], [8, 9, 10]), ([8, 11], [8, 11]), ([12, 8], [12]), ([13], [13]), ([13], [13]), ([14, 15, 13], [13, 14, 15]), ([13, 16], [13, 16]), ([17, 13], [17]), ([18], [18]), ([18], [18]), ([19, 20, 18], [18, 19, 20]), ([18, 21], [18, 21]), ([22, 18], [22]), ([23], [23]), ([23], [23]), ([24, 25, 23], [23, 24, 25]), ([23, 26], [23, 26]), ([27, 23], [27]), ([28], [28]), ([28], [28]), ([29, 30, 28], [28, 29, 30]), ([28, 31], [28, 31]), ([32, 28], [32]), ([33], [33]), ([33], [33]), ([34, 35, 33], [33, 34, 35]), ([33, 36], [33, 36]), ([37, 33], [37]), ([38], [38]), ([38], [38]), ([39, 40, 38], [38, 39, 40]), ([38, 41], [38, 41]), ([42, 38], [42]), ([43], [43]), ([43], [43]), ([44, 45, 43], [43, 44, 45]), ([43, 46], [43, 46]), ([47, 43], [47]), ([48], [48]), ([48], [48]), ([49, 50, 48], [48, 49, 50]), ([48, 51], [48, 51]), ([52, 48], [52]), ([53], [53]), ([53], [53]), ([55, 53, 53], [53, 55]), ([54, 56, 53], [53, 54, 56]), ([53, 57], [53, 57]), ([58, 56], [58]), ([59], [59]), ([60, 59, 59], [59, 60]), ([59], [59]), ([62, 61, 59], [59, 62]), ([61, 63, 59], [59, 61, 63]), ([59, 64], [59, 64]), ([65, 63], [65]), ([66], [66]), ([66], [66]), ([67, 68, 66], [66, 67, 68]), ([66, 69], [66, 69]), ([70, 66], [70]), ([71], [71]), ([71], [71]), ([72, 73, 71], [71, 72, 73]), ([71, 74], [71, 74]), ([75, 71], [75]), ([76], [76]), ([76], [76]), ([78, 76, 76], [76, 78]), ([79], [79]), ([80, 79], [79, 80]), ([79], [79]), ([82, 79], [79, 82]), ([81, 83, 79], [79, 81, 83]), ([84, 79], [79, 84]), ([79, 85, 76], [76, 79, 85]), ([77, 86, 76], [76, 77, 86]), ([76, 87], [76, 87])])
def laws_FnIslandsMeasured.B12 : List Nat := [0, 0, 3, 7, 15, 15, 63, 127, 255, 511, 511, 2047, 4095, 8191, 16383, 16383, 65535, 131071, 262143, 524287, 524287, 2097151, 4194303, 8388607, 16777215, 16777215, 67108863, 134217727, 268435455, 536870911, 536870911, 2147483647, 4294967295, 8589934591, 17179869183, 17179869183, 68719476735, 137438953471, 274877906943, 549755813887, 549755813887, 2199023255551, 4398046511103, 8796093022207, 17592186044415, 17592186044415, 70368744177663, 140737488355327, 281474976710655, 562949953421311, 562949953421311, 2251799813685247, 4503599627370495, 9007199254740991, 18014398509481983, 18014398509481983, 54043195528445951, 144115188075855871, 288230376151711743, 576460752303423487, 1152921504606846975, 2305843009213693951, 1152921504606846975, 9223372036854775807, 18446744073709551615, 36893488147419103231, 73786976294838206463, 147573952589676412927, 147573952589676412927, 590295810358705651711, 1180591620717411303423, 2361183241434822606847, 4722366482869645213695, 4722366482869645213695, 18889465931478580854783, 37778931862957161709567, 75557863725914323419135, 151115727451828646838271, 151115727451828646838271, 453347182355485940514815, 1057810092162800527867903, 2266735911777429702574079, 1057810092162800527867903, 5893513370621317226692607, 19191697386382238148460543, 38534510500216304943759359, 77220136727884438534356991, 154742504910672534362390527, 309485009821345068724781055]
theorem laws_FnIslandsMeasured.tab12 : rtab .any (opsOf Tryz.f3 12) = laws_FnIslandsMeasured.T12 := by kernel_rfl
theorem laws_FnIslandsMeasured.bits12 : waitsOk laws_FnIslandsMeasured.T12.2 laws_FnIslandsMeasured.B12 = true := by kernel_rfl
def laws_FnIslandsMeasured.T60 : Bool × List (List Nat × List Nat) := (true, [([], []), ([], []), ([], []), ([2], [2]), ([3], [3]), ([], []), ([5], [5]), ([6], [6]), ([0, 1, 4, 7], [0, 1, 4, 7]), ([8], [8]), ([9], [9]), ([10], [10]), ([10], [10]), ([10], [10]), ([11, 9, 0, 1, 2, 3, 4, 5, 6, 7, 8, 9, 10, 11], [11]), ([12, 14, 0, 1, 2, 3, 4, 5, 6, 7, 8, 9, 10, 11, 12, 14], [12]), ([13, 15, 0, 1, 2, 3, 4, 5, 6, 7, 8, 9, 10, 11, 12, 13, 14, 15], [13])])
def laws_FnIslandsMeasured.B60 : List Nat := [0, 0, 0, 4, 12, 0, 32, 96, 255, 511, 1023, 2047, 2047, 2047, 4095, 24575, 65535]
theorem laws_FnIslandsMeasured.tab60 : rtab .any (opsOf Tryz.f3 60) = laws_FnIslandsMeasured.T60 := by kernel_rfl
theorem laws_FnIslandsMeasured.bits60 : waitsOk laws_FnIslandsMeasured.T60.2 laws_FnIslandsMeasured.B60 = true := by kernel_rfl
set_option maxHeartbeats 60000000 in
set_option maxRecDepth 100000 in
theorem laws_FnIslandsMeasured.calls (k : Nat) (A0 : Option Addr) (c0 : Nat) (l0 : List Int) (A1 : Option Addr) (c1 : Nat) (l1 : List Int) (r : Bool) (w : World) (hL_ : LaidQ w) (hr0 : Kd.C (Kd.int .u8) w A0 l0.length l0) (hc0 : l0.length ≤ c0) (hr1 : Kd.C (Kd.int .u8) w A1 l1.length l1) (hc1 : l1.length ≤ c1) (h : laws_FnIslandsMeasured.f k l0 l1 = some r) (hr_ : r = true) :
    Calls Tryz.prog 3 #[.slice A0 l0.length c0, .slice A1 l1.length c1] w fun e w' => e = .returned (.bool r) ∧ Below w.heap.size w w' := by
  have HR_ := Aside0.mk hr_; clear hr_; have HL_ := Aside0.mk hL_; clear hL_; have hu25 := Tryz.underlying25; have HR0 := Aside0.mk hr0; have HC0 := Aside0.mk hc0; clear hr0 hc0; have HR1 := Aside0.mk hr1; have HC1 := Aside0.mk hc1; clear hr1 hc1
  have HB := Aside0.mk (Below.refl w.heap.size w)
  have H : ((laws_big.f l0 l1).bind fun t543 => (if t543 = true then (some true) else ((spec_DrawIslandHeight.f l0).bind fun bt544 => ((impl_IslandHeight.f k bt544.1 bt544.2.1 bt544.2.2.1 bt544.2.2.2).bind fun bt549 => ((spec_IslandHeight.f k bt544.1 bt544.2.1 bt544.2.2.1 bt544.2.2.2).bind fun bt552 => ((impl_IslandAway.f k bt544.1 bt544.2.1 bt544.2.2.1 bt544.2.2.2).bind fun bt555 => ((spec_IslandAway.f k bt544.1 bt544.2.1 bt544.2.2.1 bt544.2.2.2).bind fun bt558 => ((impl_HigherByStep.f k bt544.1 bt544.2.1 bt544.2.2.1 bt544.2.2.2).bind fun bt561 => ((spec_HigherByStep.f k bt544.1 bt544.2.1 bt544.2.2.1 bt544.2.2.2).bind fun bt564 => ((impl_IslandText.f bt544.1 bt544.2.1 bt544.2.2.1 bt544.2.2.2).bind fun bt567 => ((spec_IslandText.f k bt544.1 bt544.2.1 bt544.2.2.1 bt544.2.2.2).bind fun bt569 => (if (bt549.2.2 != bt552.2.2) = true then (laws_FnIslandsMeasured.j0 k l1 bt549.1 bt549.2.1 bt549.2.2 bt555.1 bt555.2.1 bt561.1 bt561.2.1 bt561.2.2 bt567.1 true bt544.1 bt544.2.1 bt544.2.2.1 bt544.2.2.2) else (if bt549.1 = bt552.1 then (if bt549.2.1 = bt552.2.1 then (if (bt555.2.2 != bt558.2.2) = true then (laws_FnIslandsMeasured.j0 k l1 bt549.1 bt549.2.1 bt549.2.2 bt555.1 bt555.2.1 bt561.1 bt561.2.1 bt561.2.2 bt567.1 true bt544.1 bt544.2.1 bt544.2.2.1 bt544.2.2.2) else (if bt555.1 = bt558.1 then (if bt555.2.1 = bt558.2.1 then (if (bt561.2.2 != bt564.2.2) = true then (laws_FnIslandsMeasured.j0 k l1 bt549.1 bt549.2.1 bt549.2.2 bt555.1 bt555.2.1 bt561.1 bt561.2.1 bt561.2.2 bt567.1 true bt544.1 bt544.2.1 bt544.2.2.1 bt544.2.2.2) else (if bt561.1 = bt564.1 then (if bt561.2.1 = bt564.2.1 then (if (bt567.2 != bt569.2) = true then (laws_FnIslandsMeasured.j0 k l1 bt549.1 bt549.2.1 bt549.2.2 bt555.1 bt555.2.1 bt561.1 bt561.2.1 bt561.2.2 bt567.1 true bt544.1 bt544.2.1 bt544.2.2.1 bt544.2.2.2) else (if bt567.1.toList = bt569.1.toList then ((impl_IsIsland.f bt544.1 bt544.2.1 bt544.2.2.1 bt544.2.2.2).bind fun t571 => (if (bt549.2.2 != t571) = true then (laws_FnIslandsMeasured.j0 k l1 bt549.1 bt549.2.1 bt549.2.2 bt555.1 bt555.2.1 bt561.1 bt561.2.1 bt561.2.2 bt567.1 true bt544.1 bt544.2.1 bt544.2.2.1 bt544.2.2.2) else ((impl_IsIsland.f bt544.1 bt544.2.1 bt544.2.2.1 bt544.2.2.2).bind fun t572 => ((spec_IsIsland.f k bt544.1 bt544.2.1 bt544.2.2.1 bt544.2.2.2).bind fun t573 => (if (t572 != t573) = true then (laws_FnIslandsMeasured.j0 k l1 bt549.1 bt549.2.1 bt549.2.2 bt555.1 bt555.2.1 bt561.1 bt561.2.1 bt561.2.2 bt567.1 true bt544.1 bt544.2.1 bt544.2.2.1 bt544.2.2.2) else (if (bt555.2.2 != bt549.2.2) = true then (laws_FnIslandsMeasured.j0 k l1 bt549.1 bt549.2.1 bt549.2.2 bt555.1 bt555.2.1 bt561.1 bt561.2.1 bt561.2.2 bt567.1 true bt544.1 bt544.2.1 bt544.2.2.1 bt544.2.2.2) else (if (bt567.2 != bt549.2.2) = true then (laws_FnIslandsMeasured.j0 k l1 bt549.1 bt549.2.1 bt549.2.2 bt555.1 bt555.2.1 bt561.1 bt561.2.1 bt561.2.2 bt567.1 true bt544.1 bt544.2.1 bt544.2.2.1 bt544.2.2.2) else (if bt549.2.2 = true then (laws_FnIslandsMeasured.j0 k l1 bt549.1 bt549.2.1 bt549.2.2 bt555.1 bt555.2.1 bt561.1 bt561.2.1 bt561.2.2 bt567.1 (bt561.2.2 != (decide ((wrap64 (bt544.2.2.2 - bt544.2.2.1)) > 1))) bt544.1 bt544.2.1 bt544.2.2.1 bt544.2.2.2) else (laws_FnIslandsMeasured.j0 k l1 bt549.1 bt549.2.1 bt549.2.2 bt555.1 bt555.2.1 bt561.1 bt561.2.1 bt561.2.2 bt567.1 (bt561.2.2 != false) bt544.1 bt544.2.1 bt544.2.2.1 bt544.2.2.2))))))))) else (laws_FnIslandsMeasured.j0 k l1 bt549.1 bt549.2.1 bt549.2.2 bt555.1 bt555.2.1 bt561.1 bt561.2.1 bt561.2.2 bt567.1 true bt544.1 bt544.2.1 bt544.2.2.1 bt544.2.2.2))) else (laws_FnIslandsMeasured.j0 k l1 bt549.1 bt549.2.1 bt549.2.2 bt555.1 bt555.2.1 bt561.1 bt561.2.1 bt561.2.2 bt567.1 true bt544.1 bt544.2.1 bt544.2.2.1 bt544.2.2.2)) else (laws_FnIslandsMeasured.j0 k l1 bt549.1 bt549.2.1 bt549.2.2 bt555.1 bt555.2.1 bt561.1 bt561.2.1 bt561.2.2 bt567.1 true bt544.1 bt544.2.1 bt544.2.2.1 bt544.2.2.2))) else (laws_FnIslandsMeasured.j0 k l1 bt549.1 bt549.2.1 bt549.2.2 bt555.1 bt555.2.1 bt561.1 bt561.2.1 bt561.2.2 bt567.1 true bt544.1 bt544.2.1 bt544.2.2.1 bt544.2.2.2)) else (laws_FnIslandsMeasured.j0 k l1 bt549.1 bt549.2.1 bt549.2.2 bt555.1 bt555.2.1 bt561.1 bt561.2.1 bt561.2.2 bt567.1 true bt544.1 bt544.2.1 bt544.2.2.1 bt544.2.2.2))) else (laws_FnIslandsMeasured.j0 k l1 bt549.1 bt549.2.1 bt549.2.2 bt555.1 bt555.2.1 bt561.1 bt561.2.1 bt561.2.2 bt567.1 true bt544.1 bt544.2.1 bt544.2.2.1 bt544.2.2.2)) else (laws_FnIslandsMeasured.j0 k l1 bt549.1 bt549.2.1 bt549.2.2 bt555.1 bt555.2.1 bt561.1 bt561.2.1 bt561.2.2 bt567.1 true bt544.1 bt544.2.1 bt544.2.2.1 bt544.2.2.2)))))))))))))) = some r := h
  clear h; replace H := Option.bind_eq_some_iff.mp H; obtain ⟨t543, A30, H⟩ := H; (try dsimp only at H); have A3 := Aside0.mk A30; clear A30
  by_cases c4 : t543 = true
  · subst c4
    rw [if_pos rfl] at H
    obtain rfl := Option.some.inj H
    as_aux_lemma =>
     go_enter Tryz.func3, Tryz.ntmps3
     go_wp2_with (first | ((with_reducible refine gate_callee (f := 4) rfl ?_); refine zG (some 94) Tryz.func4 #[.slice A0 l0.length c0, .slice A1 l1.length c1] ?_; (with_reducible refine (laws_big.calls _ _ l0 _ _ l1 true _ ?side1 ?side2 ?side3 ?side4 A3.out).mono ?_); (case side1 => repeat (first | exact HR0.out | (with_reducible refine Kd.C_alloc ?_ _) | (with_reducible refine Kd.C_drewN ?_ _) | (with_reducible refine Kd.C_drew ?_))); (case side2 => exact HC0.out); (case side3 => repeat (first | exact HR1.out | (with_reducible refine Kd.C_alloc ?_ _) | (with_reducible refine Kd.C_drewN ?_ _) | (with_reducible refine Kd.C_drew ?_))); (case side4 => exact HC1.out); rintro e w' ⟨rfl, ⟨nd, rfl⟩⟩; refine ⟨_, rfl, ?_⟩))
     go_ret
     exact ⟨zt, zy HB⟩
  · replace c4 := Bool.eq_false_iff.mpr c4
    subst c4; rw [if_neg (show ¬ (false = true) by decide)] at H; replace H := Option.bind_eq_some_iff.mp H; obtain ⟨⟨t544, t545, t546, t547⟩, A50, H⟩ := H; (try dsimp only at H); have A5 := Aside0.mk A50; clear A50; replace H := Option.bind_eq_some_iff.mp H; obtain ⟨⟨t549, t550, t551⟩, A60, H⟩ := H; (try dsimp only at H); have A6 := Aside0.mk A60; clear A60; replace H := Option.bind_eq_some_iff.mp H; obtain ⟨⟨t552, t553, t554⟩, A70, H⟩ := H; (try dsimp only at H); have A7 := Aside0.mk A70; clear A70; replace H := Option.bind_eq_some_iff.mp H; obtain ⟨⟨t555, t556, t557⟩, A80, H⟩ := H; (try dsimp only at H); have A8 := Aside0.mk A80; clear A80; replace H := Option.bind_eq_some_iff.mp H; obtain ⟨⟨t558, t559, t560⟩, A90, H⟩ := H; (try dsimp only at H); have A9 := Aside0.mk A90; clear A90; replace H := Option.bind_eq_some_iff.mp H; obtain ⟨⟨t561, t562, t563⟩, A100, H⟩ := H; (try dsimp only at H); have A10 := Aside0.mk A100; clear A100; replace H := Option.bind_eq_some_iff.mp H; obtain ⟨⟨t564, t565, t566⟩, A110, H⟩ := H; (try dsimp only at H); have A11 := Aside0.mk A110; clear A110; replace H := Option.bind_eq_some_iff.mp H; obtain ⟨⟨t567, t568⟩, A120, H⟩ := H; (try dsimp only at H); have A12 := Aside0.mk A120; clear A120; replace H := Option.bind_eq_some_iff.mp H; obtain ⟨⟨t569, t570⟩, A130, H⟩ := H; (try dsimp only at H); have A13 := Aside0.mk A130; clear A130; have HC14 := Aside0.mk H; clear H
    as_aux_lemma =>
     go_enter Tryz.func3, Tryz.ntmps3
     go_upto_region 12 with (first | ((with_reducible refine gate_callee (f := 4) rfl ?_); refine zG (some 94) Tryz.func4 #[.slice A0 l0.length c0, .slice A1 l1.length c1] ?_; (with_reducible refine (laws_big.calls _ _ l0 _ _ l1 false _ ?side1 ?side2 ?side3 ?side4 A3.out).mono ?_); (case side1 => repeat (first | exact HR0.out | (with_reducible refine Kd.C_alloc ?_ _) | (with_reducible refine Kd.C_drewN ?_ _) | (with_reducible refine Kd.C_drew ?_))); (case side2 => exact HC0.out); (case side3 => repeat (first | exact HR1.out | (with_reducible refine Kd.C_alloc ?_ _) | (with_reducible refine Kd.C_drewN ?_ _) | (with_reducible refine Kd.C_drew ?_))); (case side4 => exact HC1.out); rintro e w' ⟨rfl, ⟨nd, rfl⟩⟩; refine ⟨_, rfl, ?_⟩) | ((with_reducible refine gate_callee (f := 5) rfl ?_); refine zG (some 96) Tryz.func5 #[.slice A0 l0.length c0] ?_; (with_reducible refine (spec_DrawIslandHeight.calls _ _ l0 t544 t545 t546 t547 _ ?side1 ?side2 A5.out).mono ?_); (case side1 => repeat (first | exact HR0.out | (with_reducible refine Kd.C_alloc ?_ _) | (with_reducible refine Kd.C_drewN ?_ _) | (with_reducible refine Kd.C_drew ?_))); (case side2 => exact HC0.out); rintro e w15 ⟨rfl, hb⟩; refine ⟨_, rfl, ?_⟩; replace HB := zh HB hb; clear hb) | ((with_reducible refine gate_dst (N := 5) rfl ?_); refine zE 5 #[.int .i64 0, .int .i64 0, .int .i64 0, .int .i64 0] 25 ?_; intro gb548 hg w16 hbox hb; have BK548 := Aside0.mk (hbox); have GW548 := zg HB hg; have GE548 := GW548; replace HB := zh HB hb; clear hb hbox hg; replace hz548 := zc4 BK548) | ((with_reducible refine gate_callee (f := 6) rfl ?_); refine zG (some 99) Tryz.func6 #[.agg #[.int .i64 t544, .int .i64 t545, .int .i64 t546, .int .i64 t547]] ?_; (with_reducible refine (impl_IslandHeight.calls k t544 t545 t546 t547 t549 t550 t551 _ A6.out).mono ?_); rintro e w18 ⟨rfl, hb⟩; refine ⟨_, rfl, ?_⟩; have n0_ := Aside0.mk (blk_below (g := gb548) (o := .cells #[.int .i64 t544, .int .i64 t545, .int .i64 t546, .int .i64 t547] 25 (0, 0)) (zw BK548) hb); replace HB := zh HB hb; clear BK548; have BK548 := n0_; clear n0_; clear hb; replace hz548 := zc4 BK548) | ((with_reducible refine gate_callee (f := 7) rfl ?_); refine zG (some 105) Tryz.func7 #[.agg #[.int .i64 t544, .int .i64 t545, .int .i64 t546, .int .i64 t547]] ?_; (with_reducible refine (spec_IslandHeight.calls k t544 t545 t546 t547 t552 t553 t554 _ A7.out).mono ?_); rintro e w20 ⟨rfl, hb⟩; refine ⟨_, rfl, ?_⟩; replace BK548 := zb BK548 hb; replace HB := zh HB hb; clear hb; replace hz548 := zc4 BK548) | ((with_reducible refine gate_callee (f := 8) rfl ?_); refine zG (some 111) Tryz.func8 #[.agg #[.int .i64 t544, .int .i64 t545, .int .i64 t546, .int .i64 t547]] ?_; (with_reducible refine (impl_IslandAway.calls k t544 t545 t546 t547 t555 t556 t557 _ A8.out).mono ?_); rintro e w22 ⟨rfl, hb⟩; refine ⟨_, rfl, ?_⟩; replace BK548 := zb BK548 hb; replace HB := zh HB hb; clear hb; replace hz548 := zc4 BK548) | ((with_reducible refine gate_callee (f := 9) rfl ?_); refine zG (some 117) Tryz.func9 #[.agg #[.int .i64 t544, .int .i64 t545, .int .i64 t546, .int .i64 t547]] ?_; (with_reducible refine (spec_IslandAway.calls k t544 t545 t546 t547 t558 t559 t560 _ A9.out).mono ?_); rintro e w24 ⟨rfl, hb⟩; refine ⟨_, rfl, ?_⟩; replace BK548 := zb BK548 hb; replace HB := zh HB hb; clear hb; replace hz548 := zc4 BK548) | ((with_reducible refine gate_callee (f := 10) rfl ?_); refine zG (some 123) Tryz.func10 #[.agg #[.int .i64 t544, .int .i64 t545, .int .i64 t546, .int .i64 t547]] ?_; (with_reducible refine (impl_HigherByStep.calls k t544 t545 t546 t547 t561 t562 t563 _ A10.out).mono ?_); rintro e w26 ⟨rfl, hb⟩; refine ⟨_, rfl, ?_⟩; replace BK548 := zb BK548 hb; replace HB := zh HB hb; clear hb; replace hz548 := zc4 BK548) | ((with_reducible refine gate_callee (f := 11) rfl ?_); refine zG (some 129) Tryz.func11 #[.agg #[.int .i64 t544, .int .i64 t545, .int .i64 t546, .int .i64 t547]] ?_; (with_reducible refine (spec_HigherByStep.calls k t544 t545 t546 t547 t564 t565 t566 _ A11.out).mono ?_); rintro e w28 ⟨rfl, hb⟩; refine ⟨_, rfl, ?_⟩; replace BK548 := zb BK548 hb; replace HB := zh HB hb; clear hb; replace hz548 := zc4 BK548) | ((with_reducible refine gate_callee (f := 12) rfl ?_); refine zG (some 135) Tryz.func12 #[.agg #[.int .i64 t544, .int .i64 t545, .int .i64 t546, .int .i64 t547]] ?_; (with_reducible refine (impl_IslandText.calls t544 t545 t546 t547 t567 t568 _ (LaidP.below HL_.out.p (zy HB)) A12.out).mono ?_); rintro e w30 ⟨rfl, hb⟩; refine ⟨_, rfl, ?_⟩; replace BK548 := zb BK548 hb; replace HB := zh HB hb; clear hb; replace hz548 := zc4 BK548) | ((with_reducible refine gate_callee (f := 13) rfl ?_); refine zG (some 140) Tryz.func13 #[.agg #[.int .i64 t544, .int .i64 t545, .int .i64 t546, .int .i64 t547]] ?_; (with_reducible refine (spec_IslandText.calls k t544 t545 t546 t547 t569 t570 _ A13.out).mono ?_); rintro e w32 ⟨rfl, hb⟩; refine ⟨_, rfl, ?_⟩; replace BK548 := zb BK548 hb; replace HB := zh HB hb; clear hb))
     (try simp only [Act.put, List.setIfInBounds_toArray, List.set_cons_zero, List.set_cons_succ])
     go_cut [231] from 92 to 142 (fun v231 wc => ∃ (kq : Nat) (x231_13 : Bool), v231 = .bool x231_13 ∧ Aside0 (laws_FnIslandsMeasured.j0 kq l1 t549 t550 t551 t555 t556 t561 t562 t563 t567 x231_13 t544 t545 t546 t547 = some r) ∧ Aside0 (kq ≤ k) ∧ Aside0 (wc.heap[gb548]? = some (.cells #[.int .i64 t544, .int .i64 t545, .int .i64 t546, .int .i64 t547] 25 (0, 0))) ∧ Aside0 (Below w.heap.size w wc))
     case first =>
       (try simp only [List.append_eq, List.cons_append, List.nil_append])
       have H := HC14.out; clear HC14
       by_cases c33 : (t551 != t554) = true
       · rw [if_pos c33] at H
         have c33b0 : (t551 != t554) = true := c33
         (try (have c33b1 : decide (t551 = t554) = false := by simpa using c33))
         (try (have c33b2 : (t551 == t554) = false := by simpa using c33))
         (try (have c33b3 : ¬ (t551 = t554) := by simpa using c33))
         clear c33
         (first | rw [c33b0] | (simp only [i64_w, i32_w]; rw [c33b0]) | skip)
         exact absurd (HR_.out.symm.trans (laws_FnIslandsMeasured.j0_true _ _ _ _ _ _ _ _ _ _ _ _ _ _ _ _ H)) (by decide)
       · rw [if_neg c33] at H
         have c33b0 : (t551 != t554) = false := by simpa using c33
         (try (have c33b1 : decide (t551 = t554) = true := by simpa using c33))
         (try (have c33b2 : (t551 == t554) = true := by simpa using c33))
         clear c33
         (first | rw [c33b0] | (simp only [i64_w, i32_w]; rw [c33b0]) | skip)
         by_cases c35 : t549 = t552
         · rw [if_pos c35] at H
           have c35b0 : (t549 == t552) = true := beq_iff_eq.mpr c35
           have c35b1 : (t549 != t552) = false := bne_eq_false_iff_eq.mpr c35
           clear c35
           by_cases c36 : t550 = t553
           · rw [if_pos c36] at H
             have c36b0 : (t550 == t553) = true := beq_iff_eq.mpr c36
             have c36b1 : (t550 != t553) = false := bne_eq_false_iff_eq.mpr c36
             clear c36
             by_cases c37 : (t557 != t560) = true
             · rw [if_pos c37] at H
               have c37b0 : (t557 != t560) = true := c37
               (try (have c37b1 : decide (t557 = t560) = false := by simpa using c37))
               (try (have c37b2 : (t557 == t560) = false := by simpa using c37))
               (try (have c37b3 : ¬ (t557 = t560) := by simpa using c37))
               clear c37
               exact absurd (HR_.out.symm.trans (laws_FnIslandsMeasured.j0_true _ _ _ _ _ _ _ _ _ _ _ _ _ _ _ _ H)) (by decide)
             · rw [if_neg c37] at H
               have c37b0 : (t557 != t560) = false := by simpa using c37
               (try (have c37b1 : decide (t557 = t560) = true := by simpa using c37))
               (try (have c37b2 : (t557 == t560) = true := by simpa using c37))
               clear c37
               by_cases c39 : t555 = t558
               · rw [if_pos c39] at H
                 have c39b0 : (t555 == t558) = true := beq_iff_eq.mpr c39
                 have c39b1 : (t555 != t558) = false := bne_eq_false_iff_eq.mpr c39
                 clear c39
                 by_cases c40 : t556 = t559
                 · rw [if_pos c40] at H
                   have c40b0 : (t556 == t559) = true := beq_iff_eq.mpr c40
                   have c40b1 : (t556 != t559) = false := bne_eq_false_iff_eq.mpr c40
                   clear c40
                   by_cases c41 : (t563 != t566) = true
                   · rw [if_pos c41] at H
                     have c41b0 : (t563 != t566) = true := c41
                     (try (have c41b1 : decide (t563 = t566) = false := by simpa using c41))
                     (try (have c41b2 : (t563 == t566) = false := by simpa using c41))
                     (try (have c41b3 : ¬ (t563 = t566) := by simpa using c41))
                     clear c41
                     exact absurd (HR_.out.symm.trans (laws_FnIslandsMeasured.j0_true _ _ _ _ _ _ _ _ _ _ _ _ _ _ _ _ H)) (by decide)
                   · rw [if_neg c41] at H
                     have c41b0 : (t563 != t566) = false := by simpa using c41
                     (try (have c41b1 : decide (t563 = t566) = true := by simpa using c41))
                     (try (have c41b2 : (t563 == t566) = true := by simpa using c41))
                     clear c41
                     by_cases c43 : t561 = t564
                     · rw [if_pos c43] at H
                       have c43b0 : (t561 == t564) = true := beq_iff_eq.mpr c43
                       have c43b1 : (t561 != t564) = false := bne_eq_false_iff_eq.mpr c43
                       clear c43
                       by_cases c44 : t562 = t565
                       · rw [if_pos c44] at H
                         have c44b0 : (t562 == t565) = true := beq_iff_eq.mpr c44
                         have c44b1 : (t562 != t565) = false := bne_eq_false_iff_eq.mpr c44
                         clear c44
                         by_cases c45 : (t568 != t570) = true
                         · rw [if_pos c45] at H
                           have c45b0 : (t568 != t570) = true := c45
                           (try (have c45b1 : decide (t568 = t570) = false := by simpa using c45))
                           (try (have c45b2 : (t568 == t570) = false := by simpa using c45))
                           (try (have c45b3 : ¬ (t568 = t570) := by simpa using c45))
                           clear c45
                           exact absurd (HR_.out.symm.trans (laws_FnIslandsMeasured.j0_true _ _ _ _ _ _ _ _ _ _ _ _ _ _ _ _ H)) (by decide)
                         · rw [if_neg c45] at H
                           have c45b0 : (t568 != t570) = false := by simpa using c45
                           (try (have c45b1 : decide (t568 = t570) = true := by simpa using c45))
                           (try (have c45b2 : (t568 == t570) = true := by simpa using c45))
                           clear c45
                           by_cases c47 : t567.toList = t569.toList
                           · rw [if_pos c47] at H
                             have c47b0 : (t567.toList == t569.toList) = true := beq_iff_eq.mpr c47
                             have c47b1 : (t567.toList != t569.toList) = false := bne_eq_false_iff_eq.mpr c47
                             clear c47; replace H := Option.bind_eq_some_iff.mp H; obtain ⟨t571, A480, H⟩ := H; (try dsimp only at H); have A48 := Aside0.mk A480; clear A480
                             by_cases c49 : (t551 != t571) = true
                             · rw [if_pos c49] at H
                               have c49b0 : (t551 != t571) = true := c49
                               (try (have c49b1 : decide (t551 = t571) = false := by simpa using c49))
                               (try (have c49b2 : (t551 == t571) = false := by simpa using c49))
                               (try (have c49b3 : ¬ (t551 = t571) := by simpa using c49))
                               clear c49
                               exact absurd (HR_.out.symm.trans (laws_FnIslandsMeasured.j0_true _ _ _ _ _ _ _ _ _ _ _ _ _ _ _ _ H)) (by decide)
                             · rw [if_neg c49] at H
                               have c49b0 : (t551 != t571) = false := by simpa using c49
                               (try (have c49b1 : decide (t551 = t571) = true := by simpa using c49))
                               (try (have c49b2 : (t551 == t571) = true := by simpa using c49))
                               clear c49; replace H := Option.bind_eq_some_iff.mp H; obtain ⟨t572, A520, H⟩ := H; (try dsimp only at H); have A52 := Aside0.mk A520; clear A520; replace H := Option.bind_eq_some_iff.mp H; obtain ⟨t573, A530, H⟩ := H; (try dsimp only at H); have A53 := Aside0.mk A530; clear A530
                               by_cases c54 : (t572 != t573) = true
                               · rw [if_pos c54] at H
                                 have c54b0 : (t572 != t573) = true := c54
                                 (try (have c54b1 : decide (t572 = t573) = false := by simpa using c54))
                                 (try (have c54b2 : (t572 == t573) = false := by simpa using c54))
                                 (try (have c54b3 : ¬ (t572 = t573) := by simpa using c54))
                                 clear c54
                                 exact absurd (HR_.out.symm.trans (laws_FnIslandsMeasured.j0_true _ _ _ _ _ _ _ _ _ _ _ _ _ _ _ _ H)) (by decide)
                               · rw [if_neg c54] at H
                                 have c54b0 : (t572 != t573) = false := by simpa using c54
                                 (try (have c54b1 : decide (t572 = t573) = true := by simpa using c54))
                                 (try (have c54b2 : (t572 == t573) = true := by simpa using c54))
                                 clear c54
                                 by_cases c59 : (t557 != t551) = true
                                 · rw [if_pos c59] at H
                                   have c59b0 : (t557 != t551) = true := c59
                                   (try (have c59b1 : decide (t557 = t551) = false := by simpa using c59))
                                   (try (have c59b2 : (t557 == t551) = false := by simpa using c59))
                                   (try (have c59b3 : ¬ (t557 = t551) := by simpa using c59))
                                   clear c59
                                   exact absurd (HR_.out.symm.trans (laws_FnIslandsMeasured.j0_true _ _ _ _ _ _ _ _ _ _ _ _ _ _ _ _ H)) (by decide)
                                 · rw [if_neg c59] at H
                                   have c59b0 : (t557 != t551) = false := by simpa using c59
                                   (try (have c59b1 : decide (t557 = t551) = true := by simpa using c59))
                                   (try (have c59b2 : (t557 == t551) = true := by simpa using c59))
                                   clear c59
                                   by_cases c64 : (t568 != t551) = true
                                   · rw [if_pos c64] at H
                                     have c64b0 : (t568 != t551) = true := c64
                                     (try (have c64b1 : decide (t568 = t551) = false := by simpa using c64))
                                     (try (have c64b2 : (t568 == t551) = false := by simpa using c64))
                                     (try (have c64b3 : ¬ (t568 = t551) := by simpa using c64))
                                     clear c64
                                     exact absurd (HR_.out.symm.trans (laws_FnIslandsMeasured.j0_true _ _ _ _ _ _ _ _ _ _ _ _ _ _ _ _ H)) (by decide)
                                   · rw [if_neg c64] at H
                                     have c64b0 : (t568 != t551) = false := by simpa using c64
                                     (try (have c64b1 : decide (t568 = t551) = true := by simpa using c64))
                                     (try (have c64b2 : (t568 == t551) = true := by simpa using c64))
                                     clear c64
                                     by_cases c69 : t551 = true
                                     · subst c69
                                       rw [if_pos rfl] at H; have H' := Aside0.mk H; clear H
                                       as_aux_lemma =>
                                        try go_wp2
                                        replace BK548 := Aside0.mk (blk_drew BK548.out); replace HB := Aside0.mk (below_drew1 HB.out)
                                        refine start_ (n := 89) (S := fun w' => w'.cell? ⟨gb548, 0, none⟩ = some (.int .i64 t544) ∧ w'.cell? ⟨gb548, 1, none⟩ = some (.int .i64 t545) ∧ w'.cell? ⟨gb548, 2, none⟩ = some (.int .i64 t546) ∧ w'.cell? ⟨gb548, 3, none⟩ = some (.int .i64 t547)) (ds := []) #[false, false, false, false, false, false, false, false, false, false, false, false, false, false, false, false, false, false, false, false, false, false, false, false, false, false, false, false, false, false, false, false, false, false, false, false, false, false, false, false, false, false, false, false, false, false, false, false, false, false, false, false, false, false, false, false, false, false, false, false, false, false, false, false, false, false, false, false, false, false, false, false, false, false, false, false, false, false, false, false, false, false, false, false, false, false, false, false, false] (by kernel_rfl) rfl rfl ⟨(blk_cell BK548.out 0).trans rfl, (blk_cell BK548.out 1).trans rfl, (blk_cell BK548.out 2).trans rfl, (blk_cell BK548.out 3).trans rfl⟩ (fun hHeld => ?_); refine with_tabW laws_FnIslandsMeasured.tab12 laws_FnIslandsMeasured.bits12 (fun HT_ HW_ => ?_)
                                        generalize w32.drew = w70 at BK548 HB hHeld ⊢
                                        refine zA 0 143 HT_ ?_
                                        refine zA 1 144 HT_ ?_
                                        refine zA 2 145 HT_ ?_
                                        refine zA 3 146 HT_ ?_
                                        refine zA 4 147 HT_ ?_
                                        refine zA 5 148 HT_ ?_
                                        refine zA 6 149 HT_ ?_
                                        refine zA 7 150 HT_ ?_
                                        refine zA 8 151 HT_ ?_
                                        refine zA 9 152 HT_ ?_
                                        refine zA 10 153 HT_ ?_
                                        refine zA 11 154 HT_ ?_
                                        refine zA 12 155 HT_ ?_
                                        refine zA 13 156 HT_ ?_
                                        refine zA 14 157 HT_ ?_
                                        refine zA 15 158 HT_ ?_
                                        refine zA 16 159 HT_ ?_
                                        refine zA 17 160 HT_ ?_
                                        refine zA 18 161 HT_ ?_
                                        refine zA 19 162 HT_ ?_
                                        refine zA 20 163 HT_ ?_
                                        refine zA 21 164 HT_ ?_
                                        refine zA 22 165 HT_ ?_
                                        refine zA 23 166 HT_ ?_
                                        refine zA 24 167 HT_ ?_
                                        refine zA 25 168 HT_ ?_
                                        refine zA 26 169 HT_ ?_
                                        refine zA 27 170 HT_ ?_
                                        refine zA 28 171 HT_ ?_
                                        refine zA 29 172 HT_ ?_
                                        refine zA 30 173 HT_ ?_
                                        refine zA 31 174 HT_ ?_
                                        refine zA 32 175 HT_ ?_
                                        refine zA 33 176 HT_ ?_
                                        refine zA 34 177 HT_ ?_
                                        refine zA 35 178 HT_ ?_
                                        refine zA 36 179 HT_ ?_
                                        refine zA 37 180 HT_ ?_
                                        refine zA 38 181 HT_ ?_
                                        refine zA 39 182 HT_ ?_
                                        refine zA 40 183 HT_ ?_
                                        refine zA 41 184 HT_ ?_
                                        refine zA 42 185 HT_ ?_
                                        refine zA 43 186 HT_ ?_
                                        refine zA 44 187 HT_ ?_
                                        refine zA 45 188 HT_ ?_
                                        refine zA 46 189 HT_ ?_
                                        refine zA 47 190 HT_ ?_
                                        refine zA 48 191 HT_ ?_
                                        refine zA 49 192 HT_ ?_
                                        refine zA 50 193 HT_ ?_
                                        refine zA 51 194 HT_ ?_
                                        refine zA 52 195 HT_ ?_
                                        refine zA 53 196 HT_ ?_
                                        refine zA 54 197 HT_ ?_
                                        refine zT 55 198 HT_ HW_ hHeld ?_
                                        refine zO 56 (some 199) HT_ (fun K hK => ?_)
                                        refine goes_ Tryz.func14 (by kernel_rfl) rfl #[.agg #[.int .i64 t544, .int .i64 t545, .int .i64 t546, .int .i64 t547]] (by rfl) rfl rfl zO4_1 ?_
                                        with_reducible refine (impl_IsIsland.calls t544 t545 t546 t547 t571 _ A48.out).mono ?_
                                        rintro e w71 ⟨rfl, hb⟩
                                        refine ⟨_, rfl, ?_⟩
                                        replace BK548 := zb BK548 hb; replace HB := zh HB hb
                                        (try clear hb)
                                        (try clear hb2)
                                        (try clear hk)
                                        (try clear hi)
                                        refine hK.out _ _ ⟨(blk_cell BK548.out 0).trans rfl, (blk_cell BK548.out 1).trans rfl, (blk_cell BK548.out 2).trans rfl, (blk_cell BK548.out 3).trans rfl⟩ (fun hHeld => ?_)
                                        clear hK K
                                        refine zN 199 ?_
                                        refine zA 57 200 HT_ ?_
                                        refine zA 58 201 HT_ ?_
                                        refine zA 59 202 HT_ ?_
                                        refine zT 60 203 HT_ HW_ hHeld ?_
                                        refine zT 62 205 HT_ HW_ hHeld ?_
                                        refine zO 61 (some 204) HT_ (fun K hK => ?_)
                                        refine goes_ Tryz.func14 (by kernel_rfl) rfl #[.agg #[.int .i64 t544, .int .i64 t545, .int .i64 t546, .int .i64 t547]] (by rfl) rfl rfl zO4_1 ?_
                                        with_reducible refine (impl_IsIsland.calls t544 t545 t546 t547 t572 _ A52.out).mono ?_
                                        rintro e w72 ⟨rfl, hb⟩
                                        refine ⟨_, rfl, ?_⟩
                                        replace BK548 := zb BK548 hb; replace HB := zh HB hb
                                        (try clear hb)
                                        (try clear hb2)
                                        (try clear hk)
                                        (try clear hi)
                                        refine hK.out _ _ ⟨(blk_cell BK548.out 0).trans rfl, (blk_cell BK548.out 1).trans rfl, (blk_cell BK548.out 2).trans rfl, (blk_cell BK548.out 3).trans rfl⟩ (fun hHeld => ?_)
                                        clear hK K
                                        refine zN 204 ?_
                                        refine zO 63 (some 206) HT_ (fun K hK => ?_)
                                        refine goes_ Tryz.func15 (by kernel_rfl) rfl #[.agg #[.int .i64 t544, .int .i64 t545, .int .i64 t546, .int .i64 t547]] (by rfl) rfl rfl zO4_1 ?_
                                        with_reducible refine (spec_IsIsland.calls k t544 t545 t546 t547 t573 _ A53.out).mono ?_
                                        rintro e w73 ⟨rfl, hb⟩
                                        refine ⟨_, rfl, ?_⟩
                                        replace BK548 := zb BK548 hb; replace HB := zh HB hb
                                        (try clear hb)
                                        (try clear hb2)
                                        (try clear hk)
                                        (try clear hi)
                                        refine hK.out _ _ ⟨(blk_cell BK548.out 0).trans rfl, (blk_cell BK548.out 1).trans rfl, (blk_cell BK548.out 2).trans rfl, (blk_cell BK548.out 3).trans rfl⟩ (fun hHeld => ?_)
                                        clear hK K
                                        refine zN 206 ?_
                                        refine zA 64 207 HT_ ?_
                                        refine zA 65 208 HT_ ?_
                                        refine zA 66 209 HT_ ?_
                                        refine zA 67 210 HT_ ?_
                                        refine zA 68 211 HT_ ?_
                                        refine zA 69 212 HT_ ?_
                                        refine zA 70 213 HT_ ?_
                                        refine zA 71 214 HT_ ?_
                                        refine zA 72 215 HT_ ?_
                                        refine zA 73 216 HT_ ?_
                                        refine zA 74 217 HT_ ?_
                                        refine zA 75 218 HT_ ?_
                                        refine zA 76 219 HT_ ?_
                                        refine zA 77 220 HT_ ?_
                                        refine zA 78 221 HT_ ?_
                                        refine zA 79 222 HT_ ?_
                                        refine zA 80 223 HT_ ?_
                                        refine zA 82 225 HT_ ?_
                                        refine zT 81 224 HT_ HW_ hHeld ?_
                                        refine zT 83 226 HT_ HW_ hHeld ?_
                                        refine zA 84 227 HT_ ?_
                                        refine zA 85 228 HT_ ?_
                                        refine zA 86 229 HT_ ?_
                                        refine zA 87 230 HT_ ?_
                                        refine zA 88 231 HT_ ?_
                                        refine done_ (done_of HT_.out (by kernel_rfl)) ?_
                                        try go_wp2
                                        go_meet
                                        case rel => exact ⟨_, ((t563 != (decide ((wrap64 (t547 - t546)) > 1)))), zu, H', ⟨by first | omega | exact Nat.le_refl _⟩, zk BK548, ⟨zy HB⟩⟩
                                     · replace c69 := Bool.eq_false_iff.mpr c69
                                       subst c69; rw [if_neg (show ¬ (false = true) by decide)] at H; have H' := Aside0.mk H; clear H
                                       as_aux_lemma =>
                                        try go_wp2
                                        replace BK548 := Aside0.mk (blk_drew BK548.out); replace HB := Aside0.mk (below_drew1 HB.out)
                                        refine start_ (n := 89) (S := fun w' => w'.cell? ⟨gb548, 0, none⟩ = some (.int .i64 t544) ∧ w'.cell? ⟨gb548, 1, none⟩ = some (.int .i64 t545) ∧ w'.cell? ⟨gb548, 2, none⟩ = some (.int .i64 t546) ∧ w'.cell? ⟨gb548, 3, none⟩ = some (.int .i64 t547)) (ds := []) #[false, false, false, false, false, false, false, false, false, false, false, false, false, false, false, false, false, false, false, false, false, false, false, false, false, false, false, false, false, false, false, false, false, false, false, false, false, false, false, false, false, false, false, false, false, false, false, false, false, false, false, false, false, false, false, false, false, false, false, false, false, false, false, false, false, false, false, false, false, false, false, false, false, false, false, false, false, false, false, false, false, false, false, false, false, false, false, false, false] (by kernel_rfl) rfl rfl ⟨(blk_cell BK548.out 0).trans rfl, (blk_cell BK548.out 1).trans rfl, (blk_cell BK548.out 2).trans rfl, (blk_cell BK548.out 3).trans rfl⟩ (fun hHeld => ?_); refine with_tabW laws_FnIslandsMeasured.tab12 laws_FnIslandsMeasured.bits12 (fun HT_ HW_ => ?_)
                                        generalize w32.drew = w74 at BK548 HB hHeld ⊢
                                        refine zA 0 143 HT_ ?_
                                        refine zA 1 144 HT_ ?_
                                        refine zA 2 145 HT_ ?_
                                        refine zA 3 146 HT_ ?_
                                        refine zA 4 147 HT_ ?_
                                        refine zA 5 148 HT_ ?_
                                        refine zA 6 149 HT_ ?_
                                        refine zA 7 150 HT_ ?_
                                        refine zA 8 151 HT_ ?_
                                        refine zA 9 152 HT_ ?_
                                        refine zA 10 153 HT_ ?_
                                        refine zA 11 154 HT_ ?_
                                        refine zA 12 155 HT_ ?_
                                        refine zA 13 156 HT_ ?_
                                        refine zA 14 157 HT_ ?_
                                        refine zA 15 158 HT_ ?_
                                        refine zA 16 159 HT_ ?_
                                        refine zA 17 160 HT_ ?_
                                        refine zA 18 161 HT_ ?_
                                        refine zA 19 162 HT_ ?_
                                        refine zA 20 163 HT_ ?_
                                        refine zA 21 164 HT_ ?_
                                        refine zA 22 165 HT_ ?_
                                        refine zA 23 166 HT_ ?_
                                        refine zA 24 167 HT_ ?_
                                        refine zA 25 168 HT_ ?_
                                        refine zA 26 169 HT_ ?_
                                        refine zA 27 170 HT_ ?_
                                        refine zA 28 171 HT_ ?_
                                        refine zA 29 172 HT_ ?_
                                        refine zA 30 173 HT_ ?_
                                        refine zA 31 174 HT_ ?_
                                        refine zA 32 175 HT_ ?_
                                        refine zA 33 176 HT_ ?_
                                        refine zA 34 177 HT_ ?_
                                        refine zA 35 178 HT_ ?_
                                        refine zA 36 179 HT_ ?_
                                        refine zA 37 180 HT_ ?_
                                        refine zA 38 181 HT_ ?_
                                        refine zA 39 182 HT_ ?_
                                        refine zA 40 183 HT_ ?_
                                        refine zA 41 184 HT_ ?_
                                        refine zA 42 185 HT_ ?_
                                        refine zA 43 186 HT_ ?_
                                        refine zA 44 187 HT_ ?_
                                        refine zA 45 188 HT_ ?_
                                        refine zA 46 189 HT_ ?_
                                        refine zA 47 190 HT_ ?_
                                        refine zA 48 191 HT_ ?_
                                        refine zA 49 192 HT_ ?_
                                        refine zA 50 193 HT_ ?_
                                        refine zA 51 194 HT_ ?_
                                        refine zA 52 195 HT_ ?_
                                        refine zA 53 196 HT_ ?_
                                        refine zA 54 197 HT_ ?_
                                        refine zT 55 198 HT_ HW_ hHeld ?_
                                        refine zO 56 (some 199) HT_ (fun K hK => ?_)
                                        refine goes_ Tryz.func14 (by kernel_rfl) rfl #[.agg #[.int .i64 t544, .int .i64 t545, .int .i64 t546, .int .i64 t547]] (by rfl) rfl rfl zO4_1 ?_
                                        with_reducible refine (impl_IsIsland.calls t544 t545 t546 t547 t571 _ A48.out).mono ?_
                                        rintro e w75 ⟨rfl, hb⟩
                                        refine ⟨_, rfl, ?_⟩
                                        replace BK548 := zb BK548 hb; replace HB := zh HB hb
                                        (try clear hb)
                                        (try clear hb2)
                                        (try clear hk)
                                        (try clear hi)
                                        refine hK.out _ _ ⟨(blk_cell BK548.out 0).trans rfl, (blk_cell BK548.out 1).trans rfl, (blk_cell BK548.out 2).trans rfl, (blk_cell BK548.out 3).trans rfl⟩ (fun hHeld => ?_)
                                        clear hK K
                                        refine zN 199 ?_
                                        refine zA 57 200 HT_ ?_
                                        refine zA 58 201 HT_ ?_
                                        refine zA 59 202 HT_ ?_
                                        refine zT 60 203 HT_ HW_ hHeld ?_
                                        refine zT 62 205 HT_ HW_ hHeld ?_
                                        refine zO 61 (some 204) HT_ (fun K hK => ?_)
                                        refine goes_ Tryz.func14 (by kernel_rfl) rfl #[.agg #[.int .i64 t544, .int .i64 t545, .int .i64 t546, .int .i64 t547]] (by rfl) rfl rfl zO4_1 ?_
                                        with_reducible refine (impl_IsIsland.calls t544 t545 t546 t547 t572 _ A52.out).mono ?_
                                        rintro e w76 ⟨rfl, hb⟩
                                        refine ⟨_, rfl, ?_⟩
                                        replace BK548 := zb BK548 hb; replace HB := zh HB hb
                                        (try clear hb)
                                        (try clear hb2)
                                        (try clear hk)
                                        (try clear hi)
                                        refine hK.out _ _ ⟨(blk_cell BK548.out 0).trans rfl, (blk_cell BK548.out 1).trans rfl, (blk_cell BK548.out 2).trans rfl, (blk_cell BK548.out 3).trans rfl⟩ (fun hHeld => ?_)
                                        clear hK K
                                        refine zN 204 ?_
                                        refine zO 63 (some 206) HT_ (fun K hK => ?_)
                                        refine goes_ Tryz.func15 (by kernel_rfl) rfl #[.agg #[.int .i64 t544, .int .i64 t545, .int .i64 t546, .int .i64 t547]] (by rfl) rfl rfl zO4_1 ?_
                                        with_reducible refine (spec_IsIsland.calls k t544 t545 t546 t547 t573 _ A53.out).mono ?_
                                        rintro e w77 ⟨rfl, hb⟩
                                        refine ⟨_, rfl, ?_⟩
                                        replace BK548 := zb BK548 hb; replace HB := zh HB hb
                                        (try clear hb)
                                        (try clear hb2)
                                        (try clear hk)
                                        (try clear hi)
                                        refine hK.out _ _ ⟨(blk_cell BK548.out 0).trans rfl, (blk_cell BK548.out 1).trans rfl, (blk_cell BK548.out 2).trans rfl, (blk_cell BK548.out 3).trans rfl⟩ (fun hHeld => ?_)
                                        clear hK K
                                        refine zN 206 ?_
                                        refine zA 64 207 HT_ ?_
                                        refine zA 65 208 HT_ ?_
                                        refine zA 66 209 HT_ ?_
                                        refine zA 67 210 HT_ ?_
                                        refine zA 68 211 HT_ ?_
                                        refine zA 69 212 HT_ ?_
                                        refine zA 70 213 HT_ ?_
                                        refine zA 71 214 HT_ ?_
                                        refine zA 72 215 HT_ ?_
                                        refine zA 73 216 HT_ ?_
                                        refine zA 74 217 HT_ ?_
                                        refine zA 75 218 HT_ ?_
                                        refine zA 76 219 HT_ ?_
                                        refine zA 77 220 HT_ ?_
                                        refine zA 78 221 HT_ ?_
                                        refine zA 79 222 HT_ ?_
                                        refine zAu 80 223 HT_ ?_
                                        refine zAu 81 224 HT_ ?_
                                        refine zAu 82 225 HT_ ?_
                                        refine zAu 83 226 HT_ ?_
                                        refine zAu 84 227 HT_ ?_
                                        refine zAu 85 228 HT_ ?_
                                        refine zA 86 229 HT_ ?_
                                        refine zA 87 230 HT_ ?_
                                        refine zA 88 231 HT_ ?_
                                        refine done_ (done_of HT_.out (by kernel_rfl)) ?_
                                        try go_wp2
                                        go_meet
                                        case rel => exact ⟨_, ((t563 != false)), zu, H', ⟨by first | omega | exact Nat.le_refl _⟩, zk BK548, ⟨zy HB⟩⟩
                           · rw [if_neg c47] at H
                             have c47b0 : (t567.toList == t569.toList) = false := beq_eq_false_iff_ne.mpr c47
                             have c47b1 : (t567.toList != t569.toList) = true := bne_iff_ne.mpr c47
                             exact absurd (HR_.out.symm.trans (laws_FnIslandsMeasured.j0_true _ _ _ _ _ _ _ _ _ _ _ _ _ _ _ _ H)) (by decide)
                       · rw [if_neg c44] at H
                         have c44b0 : (t562 == t565) = false := beq_eq_false_iff_ne.mpr c44
                         have c44b1 : (t562 != t565) = true := bne_iff_ne.mpr c44
                         exact absurd (HR_.out.symm.trans (laws_FnIslandsMeasured.j0_true _ _ _ _ _ _ _ _ _ _ _ _ _ _ _ _ H)) (by decide)
                     · rw [if_neg c43] at H
                       have c43b0 : (t561 == t564) = false := beq_eq_false_iff_ne.mpr c43
                       have c43b1 : (t561 != t564) = true := bne_iff_ne.mpr c43
                       exact absurd (HR_.out.symm.trans (laws_FnIslandsMeasured.j0_true _ _ _ _ _ _ _ _ _ _ _ _ _ _ _ _ H)) (by decide)
                 · rw [if_neg c40] at H
                   have c40b0 : (t556 == t559) = false := beq_eq_false_iff_ne.mpr c40
                   have c40b1 : (t556 != t559) = true := bne_iff_ne.mpr c40
                   exact absurd (HR_.out.symm.trans (laws_FnIslandsMeasured.j0_true _ _ _ _ _ _ _ _ _ _ _ _ _ _ _ _ H)) (by decide)
               · rw [if_neg c39] at H
                 have c39b0 : (t555 == t558) = false := beq_eq_false_iff_ne.mpr c39
                 have c39b1 : (t555 != t558) = true := bne_iff_ne.mpr c39
                 exact absurd (HR_.out.symm.trans (laws_FnIslandsMeasured.j0_true _ _ _ _ _ _ _ _ _ _ _ _ _ _ _ _ H)) (by decide)
           · rw [if_neg c36] at H
             have c36b0 : (t550 == t553) = false := beq_eq_false_iff_ne.mpr c36
             have c36b1 : (t550 != t553) = true := bne_iff_ne.mpr c36
             exact absurd (HR_.out.symm.trans (laws_FnIslandsMeasured.j0_true _ _ _ _ _ _ _ _ _ _ _ _ _ _ _ _ H)) (by decide)
         · rw [if_neg c35] at H
           have c35b0 : (t549 == t552) = false := beq_eq_false_iff_ne.mpr c35
           have c35b1 : (t549 != t552) = true := bne_iff_ne.mpr c35
           exact absurd (HR_.out.symm.trans (laws_FnIslandsMeasured.j0_true _ _ _ _ _ _ _ _ _ _ _ _ _ _ _ _ H)) (by decide)
     case rest =>
       (try clear hz548)
       clear HC14
       obtain ⟨kq, x231_13, rfl, HA, HJ13, BK548, HB⟩ := hcut
       cases kq with
       | zero => exact absurd HA.out (by simp [laws_FnIslandsMeasured.j0])
       | succ kj13 =>
         have H := HA.out; clear HA; simp only [laws_FnIslandsMeasured.j0] at H
         by_cases c85 : x231_13 = true
         · subst c85
           rw [if_pos rfl] at H
           obtain rfl := Option.some.inj H
           exact absurd HR_.out (by decide)
         · replace c85 := Bool.eq_false_iff.mpr c85
           subst c85; rw [if_neg (show ¬ (false = true) by decide)] at H; have HC86 := Aside0.mk H; clear H
           as_aux_lemma =>
            go_upto_if 232 with (fail)
            go_cut [] from 232 to 232 (fun wc => ∃ (kq : Nat), Aside0 (laws_FnIslandsMeasured.j6 kq l1 t549 t550 t561 t562 t563 t544 t545 t546 t547 = some r) ∧ Aside0 (kq ≤ kj13) ∧ Aside0 (wc.heap[gb548]? = some (.cells #[.int .i64 t544, .int .i64 t545, .int .i64 t546, .int .i64 t547] 25 (0, 0))) ∧ Aside0 (Below w.heap.size w wc))
            case first =>
              have H := HC86.out; clear HC86
              by_cases c87 : t551 = true
              · subst c87
                rw [if_pos rfl] at H; have HC88 := Aside0.mk H; clear H
                as_aux_lemma =>
                 go_upto_region 15 with (fail)
                 go_cut [287] from 232 to 232 (fun v287 wc => ∃ (kq : Nat) (x287_87 : Bool), v287 = .bool x287_87 ∧ Aside0 (laws_FnIslandsMeasured.j1 kq l1 t549 t550 t555 t556 t561 t562 t563 t567 x287_87 t544 t545 t546 t547 = some r) ∧ Aside0 (kq ≤ kj13) ∧ Aside0 (wc.heap[gb548]? = some (.cells #[.int .i64 t544, .int .i64 t545, .int .i64 t546, .int .i64 t547] 25 (0, 0))) ∧ Aside0 (Below w.heap.size w wc))
                 case first =>
                   have H := HC88.out; clear HC88; replace H := Option.bind_eq_some_iff.mp H; obtain ⟨t574, A890, H⟩ := H; (try dsimp only at H); have A89 := Aside0.mk A890; clear A890
                   by_cases c90 : t574 = true
                   · subst c90
                     rw [if_pos rfl] at H; replace H := Option.bind_eq_some_iff.mp H; obtain ⟨t575, A910, H⟩ := H; (try dsimp only at H); have A91 := Aside0.mk A910; clear A910
                     by_cases c92 : t575 = true
                     · subst c92
                       rw [if_pos rfl] at H
                       by_cases c93 : (wrap64 ((wrap64 ((wrap64 (t549 - (wrap64 (t544 * t550)))) * t546)) * t556)) = (wrap64 ((wrap64 (t544 * t555)) * t550))
                       · rw [if_pos c93] at H
                         have c93b0 : ((wrap64 ((wrap64 ((wrap64 (t549 - (wrap64 (t544 * t550)))) * t546)) * t556)) == (wrap64 ((wrap64 (t544 * t555)) * t550))) = true := beq_iff_eq.mpr c93
                         have c93b1 : ((wrap64 ((wrap64 ((wrap64 (t549 - (wrap64 (t544 * t550)))) * t546)) * t556)) != (wrap64 ((wrap64 (t544 * t555)) * t550))) = false := bne_eq_false_iff_eq.mpr c93
                         clear c93
                         (first | rw [c93b0] | (simp only [i64_w, i32_w]; rw [c93b0]) | skip)
                         have H' := Aside0.mk H; clear H
                         as_aux_lemma =>
                          go_wp2_with (first | ((with_reducible refine gate_callee (f := 16) rfl ?_); refine zG (some 235) Tryz.func16 #[.int .i64 t549, .int .i64 t550] ?_; (with_reducible refine (laws_yLow.calls kj13 t549 t550 true _ A89.out).mono ?_); rintro e w' ⟨rfl, ⟨nd, rfl⟩⟩; refine ⟨_, rfl, ?_⟩) | (go_at_call 16; (with_reducible refine (laws_yLow.calls kj13 t555 t556 true _ A91.out).mono ?_); rintro e w' ⟨rfl, ⟨nd, rfl⟩⟩; replace hz548 := zc4 BK548))
                          go_meet
                          case rel => exact ⟨_, (((wrap64 ((wrap64 ((wrap64 (t549 - (wrap64 (t544 * t550)))) * t547)) * t556)) != (wrap64 ((wrap64 (t544 * t550)) * (wrap64 (t555 + (wrap64 (t545 * t556)))))))), zu, H', ⟨by have := HJ13.out; first | omega | exact Nat.le_refl _⟩, zk BK548, ⟨zy HB⟩⟩
                       · rw [if_neg c93] at H
                         have c93b0 : ((wrap64 ((wrap64 ((wrap64 (t549 - (wrap64 (t544 * t550)))) * t546)) * t556)) == (wrap64 ((wrap64 (t544 * t555)) * t550))) = false := beq_eq_false_iff_ne.mpr c93
                         have c93b1 : ((wrap64 ((wrap64 ((wrap64 (t549 - (wrap64 (t544 * t550)))) * t546)) * t556)) != (wrap64 ((wrap64 (t544 * t555)) * t550))) = true := bne_iff_ne.mpr c93
                         (first | rw [c93b0] | (simp only [i64_w, i32_w]; rw [c93b0]) | skip)
                         exact absurd (HR_.out.symm.trans (laws_FnIslandsMeasured.j1_true _ _ _ _ _ _ _ _ _ _ _ _ _ _ _ H)) (by decide)
                     · replace c92 := Bool.eq_false_iff.mpr c92
                       subst c92; rw [if_neg (show ¬ (false = true) by decide)] at H
                       exact absurd (HR_.out.symm.trans (laws_FnIslandsMeasured.j1_true _ _ _ _ _ _ _ _ _ _ _ _ _ _ _ H)) (by decide)
                   · replace c90 := Bool.eq_false_iff.mpr c90
                     subst c90; rw [if_neg (show ¬ (false = true) by decide)] at H
                     exact absurd (HR_.out.symm.trans (laws_FnIslandsMeasured.j1_true _ _ _ _ _ _ _ _ _ _ _ _ _ _ _ H)) (by decide)
                 case rest =>
                   (try clear hz548)
                   clear HC88
                   obtain ⟨kq, x287_87, rfl, HA, HJ87, BK548, HB⟩ := hcut
                   cases kq with
                   | zero => exact absurd HA.out (by simp [laws_FnIslandsMeasured.j1])
                   | succ kj87 =>
                     have H := HA.out; clear HA; simp only [laws_FnIslandsMeasured.j1] at H
                     by_cases c96 : x287_87 = true
                     · subst c96
                       rw [if_pos rfl] at H
                       obtain rfl := Option.some.inj H
                       exact absurd HR_.out (by decide)
                     · replace c96 := Bool.eq_false_iff.mpr c96
                       subst c96; rw [if_neg (show ¬ (false = true) by decide)] at H; have HC97 := Aside0.mk H; clear H
                       as_aux_lemma =>
                        go_upto_region 17 with (fail)
                        go_cut [293] from 1 to 0 (fun v293 wc => ∃ (kq : Nat) (x293_96 : Bool), v293 = .bool x293_96 ∧ Aside0 (laws_FnIslandsMeasured.j2 kq l1 t549 t550 t555 t556 t561 t562 t563 t567 x293_96 t544 t545 t546 t547 = some r) ∧ Aside0 (kq ≤ kj87) ∧ Aside0 (wc.heap[gb548]? = some (.cells #[.int .i64 t544, .int .i64 t545, .int .i64 t546, .int .i64 t547] 25 (0, 0))) ∧ Aside0 (Below w.heap.size w wc))
                        case first =>
                          have H := HC97.out; clear HC97
                          by_cases c98 : t550 = 1
                          · rw [if_pos c98] at H
                            have c98b0 : (t550 == 1) = true := beq_iff_eq.mpr c98
                            have c98b1 : (t550 != 1) = false := bne_eq_false_iff_eq.mpr c98
                            clear c98
                            (first | rw [c98b0] | (simp only [i64_w, i32_w]; rw [c98b0]) | skip)
                            have H' := Aside0.mk H; clear H
                            as_aux_lemma =>
                             go_wp2
                             go_meet
                             case rel => exact ⟨_, (decide (t549 ≤ 2000)), zu, H', ⟨by have := HJ13.out; have := HJ87.out; first | omega | exact Nat.le_refl _⟩, zk BK548, ⟨zy HB⟩⟩
                          · rw [if_neg c98] at H
                            have c98b0 : (t550 == 1) = false := beq_eq_false_iff_ne.mpr c98
                            have c98b1 : (t550 != 1) = true := bne_iff_ne.mpr c98
                            (first | rw [c98b0] | (simp only [i64_w, i32_w]; rw [c98b0]) | skip)
                            have H' := Aside0.mk H; clear H
                            as_aux_lemma =>
                             go_wp2
                             go_meet
                             case rel => exact ⟨_, (false), zu, H', ⟨by have := HJ13.out; have := HJ87.out; first | omega | exact Nat.le_refl _⟩, zk BK548, ⟨zy HB⟩⟩
                        case rest =>
                          (try clear hz548)
                          clear HC97
                          obtain ⟨kq, x293_96, rfl, HA, HJ96, BK548, HB⟩ := hcut
                          cases kq with
                          | zero => exact absurd HA.out (by simp [laws_FnIslandsMeasured.j2])
                          | succ kj96 =>
                            have H := HA.out; clear HA; simp only [laws_FnIslandsMeasured.j2] at H
                            by_cases c99 : x293_96 = true
                            · subst c99
                              rw [if_pos rfl] at H; replace H := Option.bind_eq_some_iff.mp H; obtain ⟨⟨t576, t577, t578⟩, A1000, H⟩ := H; (try dsimp only at H); have A100 := Aside0.mk A1000; clear A1000; have HC101 := Aside0.mk H; clear H; replace hz548 := zc4 BK548
                              as_aux_lemma =>
                               go_upto_region 19 with (first | ((with_reducible refine gate_callee (f := 17) rfl ?_); refine zG (some 302) Tryz.func17 #[.int .i64 t544, .int .i64 t545, .int .i64 t546, .int .i64 t549] ?_; (with_reducible refine (impl_SecondStep.calls kj96 t544 t545 t546 t549 t576 t577 t578 _ A100.out).mono ?_); rintro e w103 ⟨rfl, hb⟩; refine ⟨_, rfl, ?_⟩; replace BK548 := zb BK548 hb; replace HB := zh HB hb; clear hb))
                               (try simp only [Act.put, List.setIfInBounds_toArray, List.set_cons_zero, List.set_cons_succ])
                               go_cut [315] from 294 to 305 (fun v315 wc => ∃ (kq : Nat) (x315_100 : Bool), v315 = .bool x315_100 ∧ Aside0 (laws_FnIslandsMeasured.j3 kq l1 t549 t550 t555 t556 t561 t562 t563 t567 x315_100 t544 t545 t546 t547 = some r) ∧ Aside0 (kq ≤ kj96) ∧ Aside0 (wc.heap[gb548]? = some (.cells #[.int .i64 t544, .int .i64 t545, .int .i64 t546, .int .i64 t547] 25 (0, 0))) ∧ Aside0 (Below w.heap.size w wc))
                               case first =>
                                 have H := HC101.out; clear HC101
                                 by_cases c104 : t578 = true
                                 · subst c104
                                   rw [if_pos rfl] at H; replace H := Option.bind_eq_some_iff.mp H; obtain ⟨t579, A1050, H⟩ := H
                                   replace H : (laws_FnIslandsMeasured.j3 kj96 l1 t549 t550 t555 t556 t561 t562 t563 t567 (!t579) t544 t545 t546 t547) = some r := H
                                   have A105 := Aside0.mk A1050; clear A1050; have H' := Aside0.mk H; clear H; replace hz548 := zc4 BK548
                                   as_aux_lemma =>
                                    go_wp2_with (first | (go_at_call 18; (with_reducible refine (laws_yIs.calls kj96 t576 t577 t547 1 t579 _ A105.out).mono ?_); rintro e w' ⟨rfl, ⟨nd, rfl⟩⟩))
                                    go_meet
                                    case rel => exact ⟨_, (!t579), zu, H', ⟨by have := HJ13.out; have := HJ87.out; have := HJ96.out; first | omega | exact Nat.le_refl _⟩, zk BK548, ⟨zy HB⟩⟩
                                 · replace c104 := Bool.eq_false_iff.mpr c104
                                   subst c104; rw [if_neg (show ¬ (false = true) by decide)] at H
                                   exact absurd (HR_.out.symm.trans (laws_FnIslandsMeasured.j3_true _ _ _ _ _ _ _ _ _ _ _ _ _ _ _ H)) (by decide)
                               case rest =>
                                 (try clear hz548)
                                 clear HC101
                                 obtain ⟨kq, x315_100, rfl, HA, HJ100, BK548, HB⟩ := hcut
                                 cases kq with
                                 | zero => exact absurd HA.out (by simp [laws_FnIslandsMeasured.j3])
                                 | succ kj100 =>
                                   have H := HA.out; clear HA; simp only [laws_FnIslandsMeasured.j3] at H
                                   by_cases c107 : x315_100 = true
                                   · subst c107
                                     rw [if_pos rfl] at H
                                     obtain rfl := Option.some.inj H
                                     exact absurd HR_.out (by decide)
                                   · replace c107 := Bool.eq_false_iff.mpr c107
                                     subst c107; rw [if_neg (show ¬ (false = true) by decide)] at H; have HC108 := Aside0.mk H; clear H
                                     as_aux_lemma =>
                                      go_upto_region 21 with (fail)
                                      go_cut [321] from 1 to 0 (fun v321 wc => ∃ (kq : Nat) (x321_107 : Bool), v321 = .bool x321_107 ∧ Aside0 (laws_FnIslandsMeasured.j4 kq l1 t549 t550 t555 t561 t562 t563 t567 x321_107 t544 t545 t546 t547 = some r) ∧ Aside0 (kq ≤ kj100) ∧ Aside0 (wc.heap[gb548]? = some (.cells #[.int .i64 t544, .int .i64 t545, .int .i64 t546, .int .i64 t547] 25 (0, 0))) ∧ Aside0 (Below w.heap.size w wc))
                                      case first =>
                                        have H := HC108.out; clear HC108
                                        by_cases c109 : t556 = 1
                                        · rw [if_pos c109] at H
                                          have c109b0 : (t556 == 1) = true := beq_iff_eq.mpr c109
                                          have c109b1 : (t556 != 1) = false := bne_eq_false_iff_eq.mpr c109
                                          clear c109
                                          (first | rw [c109b0] | (simp only [i64_w, i32_w]; rw [c109b0]) | skip)
                                          have H' := Aside0.mk H; clear H
                                          as_aux_lemma =>
                                           go_wp2
                                           go_meet
                                           case rel => exact ⟨_, (decide (t555 ≤ 2000)), zu, H', ⟨by have := HJ13.out; have := HJ87.out; have := HJ96.out; have := HJ100.out; first | omega | exact Nat.le_refl _⟩, zk BK548, ⟨zy HB⟩⟩
                                        · rw [if_neg c109] at H
                                          have c109b0 : (t556 == 1) = false := beq_eq_false_iff_ne.mpr c109
                                          have c109b1 : (t556 != 1) = true := bne_iff_ne.mpr c109
                                          (first | rw [c109b0] | (simp only [i64_w, i32_w]; rw [c109b0]) | skip)
                                          have H' := Aside0.mk H; clear H
                                          as_aux_lemma =>
                                           go_wp2
                                           go_meet
                                           case rel => exact ⟨_, (false), zu, H', ⟨by have := HJ13.out; have := HJ87.out; have := HJ96.out; have := HJ100.out; first | omega | exact Nat.le_refl _⟩, zk BK548, ⟨zy HB⟩⟩
                                      case rest =>
                                        (try clear hz548)
                                        clear HC108
                                        obtain ⟨kq, x321_107, rfl, HA, HJ107, BK548, HB⟩ := hcut
                                        cases kq with
                                        | zero => exact absurd HA.out (by simp [laws_FnIslandsMeasured.j4])
                                        | succ kj107 =>
                                          have H := HA.out; clear HA; simp only [laws_FnIslandsMeasured.j4] at H
                                          by_cases c110 : x321_107 = true
                                          · subst c110
                                            rw [if_pos rfl] at H; replace H := Option.bind_eq_some_iff.mp H; obtain ⟨⟨t580, t581, t582, t583, t584⟩, A1110, H⟩ := H; (try dsimp only at H); have A111 := Aside0.mk A1110; clear A1110; have HC112 := Aside0.mk H; clear H; replace hz548 := zc4 BK548
                                            as_aux_lemma =>
                                             go_upto_region 23 with (first | ((with_reducible refine gate_callee (f := 19) rfl ?_); refine zG (some 329) Tryz.func19 #[.int .i64 t544, .int .i64 t545, .int .i64 t549, .int .i64 t555] ?_; (with_reducible refine (impl_StepsForIsland.calls kj107 t544 t545 t549 t555 t580 t581 t582 t583 t584 _ A111.out).mono ?_); rintro e w114 ⟨rfl, hb⟩; refine ⟨_, rfl, ?_⟩; replace BK548 := zb BK548 hb; replace HB := zh HB hb; clear hb))
                                             (try simp only [Act.put, List.setIfInBounds_toArray, List.set_cons_zero, List.set_cons_succ])
                                             go_cut [352] from 322 to 334 (fun v352 wc => ∃ (kq : Nat) (x352_111 : Bool), v352 = .bool x352_111 ∧ Aside0 (laws_FnIslandsMeasured.j5 kq l1 t549 t550 t561 t562 t563 t567 x352_111 t544 t545 t546 t547 = some r) ∧ Aside0 (kq ≤ kj107) ∧ Aside0 (wc.heap[gb548]? = some (.cells #[.int .i64 t544, .int .i64 t545, .int .i64 t546, .int .i64 t547] 25 (0, 0))) ∧ Aside0 (Below w.heap.size w wc))
                                             case first =>
                                               have H := HC112.out; clear HC112
                                               by_cases c115 : t584 = true
                                               · subst c115
                                                 rw [if_pos rfl] at H; replace H := Option.bind_eq_some_iff.mp H; obtain ⟨t585, A1160, H⟩ := H; (try dsimp only at H); have A116 := Aside0.mk A1160; clear A1160
                                                 by_cases c117 : t585 = true
                                                 · subst c117
                                                   rw [if_pos rfl] at H; replace H := Option.bind_eq_some_iff.mp H; obtain ⟨t586, A1180, H⟩ := H
                                                   replace H : (laws_FnIslandsMeasured.j5 kj107 l1 t549 t550 t561 t562 t563 t567 (!t586) t544 t545 t546 t547) = some r := H
                                                   have A118 := Aside0.mk A1180; clear A1180; have H' := Aside0.mk H; clear H; replace hz548 := zc4 BK548
                                                   as_aux_lemma =>
                                                    go_wp2_with (first | (go_at_call 18; (with_reducible refine (laws_yIs.calls kj107 t580 t581 t546 1 true _ A116.out).mono ?_); rintro e w' ⟨rfl, ⟨nd, rfl⟩⟩) | (go_at_call 18; (with_reducible refine (laws_yIs.calls kj107 t582 t583 t547 1 t586 _ A118.out).mono ?_); rintro e w' ⟨rfl, ⟨nd, rfl⟩⟩))
                                                    go_meet
                                                    case rel => exact ⟨_, (!t586), zu, H', ⟨by have := HJ13.out; have := HJ87.out; have := HJ96.out; have := HJ100.out; have := HJ107.out; first | omega | exact Nat.le_refl _⟩, zk BK548, ⟨zy HB⟩⟩
                                                 · replace c117 := Bool.eq_false_iff.mpr c117
                                                   subst c117; rw [if_neg (show ¬ (false = true) by decide)] at H
                                                   exact absurd (HR_.out.symm.trans (laws_FnIslandsMeasured.j5_true _ _ _ _ _ _ _ _ _ _ _ _ _ H)) (by decide)
                                               · replace c115 := Bool.eq_false_iff.mpr c115
                                                 subst c115; rw [if_neg (show ¬ (false = true) by decide)] at H
                                                 exact absurd (HR_.out.symm.trans (laws_FnIslandsMeasured.j5_true _ _ _ _ _ _ _ _ _ _ _ _ _ H)) (by decide)
                                             case rest =>
                                               (try clear hz548)
                                               clear HC112
                                               obtain ⟨kq, x352_111, rfl, HA, HJ111, BK548, HB⟩ := hcut
                                               cases kq with
                                               | zero => exact absurd HA.out (by simp [laws_FnIslandsMeasured.j5])
                                               | succ kj111 =>
                                                 have H := HA.out; clear HA; simp only [laws_FnIslandsMeasured.j5] at H
                                                 by_cases c121 : x352_111 = true
                                                 · subst c121
                                                   rw [if_pos rfl] at H
                                                   obtain rfl := Option.some.inj H
                                                   exact absurd HR_.out (by decide)
                                                 · replace c121 := Bool.eq_false_iff.mpr c121
                                                   subst c121; rw [if_neg (show ¬ (false = true) by decide)] at H; replace H := Option.bind_eq_some_iff.mp H; obtain ⟨⟨t587, t588, t589, t590, t591⟩, A1220, H⟩ := H; (try dsimp only at H); have A122 := Aside0.mk A1220; clear A1220
                                                   by_cases c123 : t591 = true
                                                   · subst c123
                                                     rw [if_pos rfl] at H
                                                     by_cases c124 : (!(t587 == t544) || (!(t588 == t545) || (!(t589 == t546) || (!(t590 == t547))))) = true
                                                     · rw [if_pos c124] at H
                                                       have c124b0 : (!(t587 == t544) || (!(t588 == t545) || (!(t589 == t546) || (!(t590 == t547))))) = true := c124
                                                       clear c124
                                                       obtain rfl := Option.some.inj H
                                                       exact absurd HR_.out (by decide)
                                                     · rw [if_neg c124] at H
                                                       have c124b0 : (!(t587 == t544) || (!(t588 == t545) || (!(t589 == t546) || (!(t590 == t547))))) = false := by simpa using c124
                                                       clear c124; have H' := Aside0.mk H; clear H
                                                       as_aux_lemma =>
                                                        go_wp2_with (first | ((with_reducible refine gate_callee (f := 20) rfl ?_); refine zG (some 355) Tryz.func20 #[.string t567] ?_; (with_reducible refine (impl_ParseIsland.calls t567 t587 t588 t589 t590 true _ (LaidQ.below HL_.out (zy HB)) A122.out).mono ?_); rintro e w125 ⟨rfl, hb⟩; refine ⟨_, rfl, ?_⟩; replace BK548 := zb BK548 hb; replace HB := zh HB hb; clear hb) | ((with_reducible refine gate_dst (N := 36) rfl ?_); refine zE 36 #[.int .i64 0, .int .i64 0, .int .i64 0, .int .i64 0] 25 ?_; intro gb592 hg w126 hbox hb; have BK592 := Aside0.mk (hbox); have GW592 := zg HB hg; have GE592 := GW592; have NB548_592 := zl BK548 hg; have NB592_548 := zr BK548 hg; replace BK548 := zb BK548 hb; replace HB := zh HB hb; clear hb hbox hg; replace hNB592_548 := NB592_548.out; replace hNB548_592 := NB548_592.out; replace hz592 := zc4 BK592; replace hz548 := zc4 BK548))
                                                        go_meet
                                                        case rel => exact ⟨_, H', ⟨by have := HJ13.out; have := HJ87.out; have := HJ96.out; have := HJ100.out; have := HJ107.out; have := HJ111.out; first | omega | exact Nat.le_refl _⟩, zk BK548, ⟨zy HB⟩⟩
                                                   · replace c123 := Bool.eq_false_iff.mpr c123
                                                     subst c123; rw [if_neg (show ¬ (false = true) by decide)] at H
                                                     obtain rfl := Option.some.inj H
                                                     exact absurd HR_.out (by decide)
                                          · replace c110 := Bool.eq_false_iff.mpr c110
                                            subst c110; rw [if_neg (show ¬ (false = true) by decide)] at H; replace H := Option.bind_eq_some_iff.mp H; obtain ⟨⟨t593, t594, t595, t596, t597⟩, A1300, H⟩ := H; (try dsimp only at H); have A130 := Aside0.mk A1300; clear A1300
                                            by_cases c131 : t597 = true
                                            · subst c131
                                              rw [if_pos rfl] at H
                                              by_cases c132 : (!(t593 == t544) || (!(t594 == t545) || (!(t595 == t546) || (!(t596 == t547))))) = true
                                              · rw [if_pos c132] at H
                                                have c132b0 : (!(t593 == t544) || (!(t594 == t545) || (!(t595 == t546) || (!(t596 == t547))))) = true := c132
                                                clear c132
                                                obtain rfl := Option.some.inj H
                                                exact absurd HR_.out (by decide)
                                              · rw [if_neg c132] at H
                                                have c132b0 : (!(t593 == t544) || (!(t594 == t545) || (!(t595 == t546) || (!(t596 == t547))))) = false := by simpa using c132
                                                clear c132; have H' := Aside0.mk H; clear H
                                                as_aux_lemma =>
                                                 go_wp2_with (first | ((with_reducible refine gate_callee (f := 20) rfl ?_); refine zG (some 355) Tryz.func20 #[.string t567] ?_; (with_reducible refine (impl_ParseIsland.calls t567 t593 t594 t595 t596 true _ (LaidQ.below HL_.out (zy HB)) A130.out).mono ?_); rintro e w133 ⟨rfl, hb⟩; refine ⟨_, rfl, ?_⟩; replace BK548 := zb BK548 hb; replace HB := zh HB hb; clear hb) | ((with_reducible refine gate_dst (N := 36) rfl ?_); refine zE 36 #[.int .i64 0, .int .i64 0, .int .i64 0, .int .i64 0] 25 ?_; intro gb598 hg w134 hbox hb; have BK598 := Aside0.mk (hbox); have GW598 := zg HB hg; have GE598 := GW598; have NB548_598 := zl BK548 hg; have NB598_548 := zr BK548 hg; replace BK548 := zb BK548 hb; replace HB := zh HB hb; clear hb hbox hg; replace hNB598_548 := NB598_548.out; replace hNB548_598 := NB548_598.out; replace hz598 := zc4 BK598; replace hz548 := zc4 BK548))
                                                 go_meet
                                                 case rel => exact ⟨_, H', ⟨by have := HJ13.out; have := HJ87.out; have := HJ96.out; have := HJ100.out; have := HJ107.out; first | omega | exact Nat.le_refl _⟩, zk BK548, ⟨zy HB⟩⟩
                                            · replace c131 := Bool.eq_false_iff.mpr c131
                                              subst c131; rw [if_neg (show ¬ (false = true) by decide)] at H
                                              obtain rfl := Option.some.inj H
                                              exact absurd HR_.out (by decide)
                            · replace c99 := Bool.eq_false_iff.mpr c99
                              subst c99; rw [if_neg (show ¬ (false = true) by decide)] at H; replace H := Option.bind_eq_some_iff.mp H; obtain ⟨⟨t599, t600, t601, t602, t603⟩, A1380, H⟩ := H; (try dsimp only at H); have A138 := Aside0.mk A1380; clear A1380
                              by_cases c139 : t603 = true
                              · subst c139
                                rw [if_pos rfl] at H
                                by_cases c140 : (!(t599 == t544) || (!(t600 == t545) || (!(t601 == t546) || (!(t602 == t547))))) = true
                                · rw [if_pos c140] at H
                                  have c140b0 : (!(t599 == t544) || (!(t600 == t545) || (!(t601 == t546) || (!(t602 == t547))))) = true := c140
                                  clear c140
                                  obtain rfl := Option.some.inj H
                                  exact absurd HR_.out (by decide)
                                · rw [if_neg c140] at H
                                  have c140b0 : (!(t599 == t544) || (!(t600 == t545) || (!(t601 == t546) || (!(t602 == t547))))) = false := by simpa using c140
                                  clear c140; have H' := Aside0.mk H; clear H
                                  as_aux_lemma =>
                                   go_wp2_with (first | ((with_reducible refine gate_callee (f := 20) rfl ?_); refine zG (some 355) Tryz.func20 #[.string t567] ?_; (with_reducible refine (impl_ParseIsland.calls t567 t599 t600 t601 t602 true _ (LaidQ.below HL_.out (zy HB)) A138.out).mono ?_); rintro e w141 ⟨rfl, hb⟩; refine ⟨_, rfl, ?_⟩; replace BK548 := zb BK548 hb; replace HB := zh HB hb; clear hb) | ((with_reducible refine gate_dst (N := 36) rfl ?_); refine zE 36 #[.int .i64 0, .int .i64 0, .int .i64 0, .int .i64 0] 25 ?_; intro gb604 hg w142 hbox hb; have BK604 := Aside0.mk (hbox); have GW604 := zg HB hg; have GE604 := GW604; have NB548_604 := zl BK548 hg; have NB604_548 := zr BK548 hg; replace BK548 := zb BK548 hb; replace HB := zh HB hb; clear hb hbox hg; replace hNB604_548 := NB604_548.out; replace hNB548_604 := NB548_604.out; replace hz604 := zc4 BK604; replace hz548 := zc4 BK548))
                                   go_meet
                                   case rel => exact ⟨_, H', ⟨by have := HJ13.out; have := HJ87.out; have := HJ96.out; first | omega | exact Nat.le_refl _⟩, zk BK548, ⟨zy HB⟩⟩
                              · replace c139 := Bool.eq_false_iff.mpr c139
                                subst c139; rw [if_neg (show ¬ (false = true) by decide)] at H
                                obtain rfl := Option.some.inj H
                                exact absurd HR_.out (by decide)
              · replace c87 := Bool.eq_false_iff.mpr c87
                subst c87; rw [if_neg (show ¬ (false = true) by decide)] at H; have H' := Aside0.mk H; clear H
                as_aux_lemma =>
                 go_wp2
                 go_meet
                 case rel => exact ⟨_, H', ⟨by have := HJ13.out; first | omega | exact Nat.le_refl _⟩, zk BK548, ⟨zy HB⟩⟩
            case rest =>
              (try clear hz548); (try clear hz592); (try clear hz598); (try clear hz604)
              clear HC86
              obtain ⟨kq, HA, HJ85, BK548, HB⟩ := hcut
              cases kq with
              | zero => exact absurd HA.out (by simp [laws_FnIslandsMeasured.j6])
              | succ kj85 =>
                have H := HA.out; clear HA; simp only [laws_FnIslandsMeasured.j6] at H; have HC146 := Aside0.mk H; clear H
                as_aux_lemma =>
                 go_upto_if 365 with (fail)
                 go_cut [] from 365 to 365 (fun wc => ∃ (kq : Nat), Aside0 (laws_FnIslandsMeasured.j7 kq l1 = some r) ∧ Aside0 (kq ≤ kj85) ∧ Aside0 (Below w.heap.size w wc))
                 case first =>
                   have H := HC146.out; clear HC146
                   by_cases c147 : t563 = true
                   · subst c147
                     rw [if_pos rfl] at H; replace H := Option.bind_eq_some_iff.mp H; obtain ⟨⟨t606, t607, t608⟩, A1480, H⟩ := H; (try dsimp only at H); have A148 := Aside0.mk A1480; clear A1480
                     by_cases c149 : t608 = true
                     · subst c149
                       rw [if_pos rfl] at H; replace H := Option.bind_eq_some_iff.mp H; obtain ⟨t609, A1500, H⟩ := H; (try dsimp only at H); have A150 := Aside0.mk A1500; clear A1500
                       by_cases c151 : t609 = true
                       · subst c151
                         rw [if_pos rfl] at H
                         by_cases c152 : t561 < 1
                         · rw [if_pos c152] at H
                           have c152b0 : decide (t561 < 1) = true := decide_eq_true c152; clear c152
                           (first | rw [c152b0] | (simp only [i64_w, i32_w]; rw [c152b0]) | skip)
                           obtain rfl := Option.some.inj H
                           exact absurd HR_.out (by decide)
                         · rw [if_neg c152] at H
                           have c152b0 : decide (t561 < 1) = false := decide_eq_false c152; clear c152
                           (first | rw [c152b0] | (simp only [i64_w, i32_w]; rw [c152b0]) | skip)
                           by_cases c153 : (wrap64 ((wrap64 ((wrap64 (t606 * t550)) - (wrap64 (t549 * t607)))) * t562)) = (wrap64 ((wrap64 (t561 * t607)) * t550))
                           · rw [if_pos c153] at H
                             have c153b0 : ((wrap64 ((wrap64 ((wrap64 (t606 * t550)) - (wrap64 (t549 * t607)))) * t562)) == (wrap64 ((wrap64 (t561 * t607)) * t550))) = true := beq_iff_eq.mpr c153
                             have c153b1 : ((wrap64 ((wrap64 ((wrap64 (t606 * t550)) - (wrap64 (t549 * t607)))) * t562)) != (wrap64 ((wrap64 (t561 * t607)) * t550))) = false := bne_eq_false_iff_eq.mpr c153
                             clear c153; have H' := Aside0.mk H; clear H; replace hz548 := zc4 BK548
                             as_aux_lemma =>
                              go_wp2_with (first | ((with_reducible refine gate_dst (N := 38) rfl ?_); refine zE 38 #[.int .i64 0, .int .i64 0, .int .i64 0, .int .i64 0] 25 ?_; intro gb605 hg w155 hbox hb; have BK605 := Aside0.mk (hbox); have GW605 := zg HB hg; have GE605 := GW605; have NB548_605 := zl BK548 hg; have NB605_548 := zr BK548 hg; replace BK548 := zb BK548 hb; replace HB := zh HB hb; clear hb hbox hg; replace hNB605_548 := NB605_548.out; replace hNB548_605 := NB548_605.out; replace hz605 := zc4 BK605) | ((with_reducible refine gate_callee (f := 6) rfl ?_); refine zG (some 373) Tryz.func6 #[.agg #[.int .i64 t544, .int .i64 t545, .int .i64 t546, .int .i64 (wrap64 (t547 - 1))]] ?_; (with_reducible refine (impl_IslandHeight.calls kj85 t544 t545 t546 (wrap64 (t547 - 1)) t606 t607 true _ A148.out).mono ?_); rintro e w158 ⟨rfl, hb⟩; refine ⟨_, rfl, ?_⟩; have n1_ := Aside0.mk (blk_below (g := gb605) (o := .cells #[.int .i64 t544, .int .i64 t545, .int .i64 t546, .int .i64 (wrap64 (t547 - 1))] 25 (0, 0)) (zw BK605) hb); replace BK548 := zb BK548 hb; replace HB := zh HB hb; clear BK605; have BK605 := n1_; clear n1_; clear hb) | (go_at_call 16; (with_reducible refine (laws_yLow.calls kj85 t561 t562 true _ A150.out).mono ?_); rintro e w' ⟨rfl, ⟨nd, rfl⟩⟩))
                              go_meet
                              case rel => exact ⟨_, H', ⟨by have := HJ13.out; have := HJ85.out; first | omega | exact Nat.le_refl _⟩, ⟨zy HB⟩⟩
                           · rw [if_neg c153] at H
                             have c153b0 : ((wrap64 ((wrap64 ((wrap64 (t606 * t550)) - (wrap64 (t549 * t607)))) * t562)) == (wrap64 ((wrap64 (t561 * t607)) * t550))) = false := beq_eq_false_iff_ne.mpr c153
                             have c153b1 : ((wrap64 ((wrap64 ((wrap64 (t606 * t550)) - (wrap64 (t549 * t607)))) * t562)) != (wrap64 ((wrap64 (t561 * t607)) * t550))) = true := bne_iff_ne.mpr c153
                             obtain rfl := Option.some.inj H
                             exact absurd HR_.out (by decide)
                       · replace c151 := Bool.eq_false_iff.mpr c151
                         subst c151; rw [if_neg (show ¬ (false = true) by decide)] at H
                         obtain rfl := Option.some.inj H
                         exact absurd HR_.out (by decide)
                     · replace c149 := Bool.eq_false_iff.mpr c149
                       subst c149; rw [if_neg (show ¬ (false = true) by decide)] at H
                       obtain rfl := Option.some.inj H
                       exact absurd HR_.out (by decide)
                   · replace c147 := Bool.eq_false_iff.mpr c147
                     subst c147; rw [if_neg (show ¬ (false = true) by decide)] at H; have H' := Aside0.mk H; clear H
                     as_aux_lemma =>
                      go_wp2
                      go_meet
                      case rel => exact ⟨_, H', ⟨by have := HJ13.out; have := HJ85.out; first | omega | exact Nat.le_refl _⟩, ⟨zy HB⟩⟩
                 case rest =>
                   (try clear hz548); (try clear hz592); (try clear hz598); (try clear hz604); (try clear hz605)
                   clear HC146
                   obtain ⟨kq, HA, HJ145, HB⟩ := hcut
                   cases kq with
                   | zero => exact absurd HA.out (by simp [laws_FnIslandsMeasured.j7])
                   | succ kj145 =>
                     have H := HA.out; clear HA; simp only [laws_FnIslandsMeasured.j7] at H; replace H := Option.bind_eq_some_iff.mp H; obtain ⟨⟨t610, t611, t612, t613⟩, A1590, H⟩ := H; (try dsimp only at H); have A159 := Aside0.mk A1590; clear A1590; replace H := Option.bind_eq_some_iff.mp H; obtain ⟨⟨t614, t615, t616⟩, A1600, H⟩ := H; (try dsimp only at H); have A160 := Aside0.mk A1600; clear A1600; replace H := Option.bind_eq_some_iff.mp H; obtain ⟨⟨t617, t618, t619⟩, A1610, H⟩ := H; (try dsimp only at H); have A161 := Aside0.mk A1610; clear A1610; replace H := Option.bind_eq_some_iff.mp H; obtain ⟨⟨t620, t621, t622, t623, t624⟩, A1620, H⟩ := H; (try dsimp only at H); have A162 := Aside0.mk A1620; clear A1620; replace H := Option.bind_eq_some_iff.mp H; obtain ⟨⟨t625, t626, t627, t628, t629⟩, A1630, H⟩ := H; (try dsimp only at H); have A163 := Aside0.mk A1630; clear A1630; replace H := Option.bind_eq_some_iff.mp H; obtain ⟨⟨t630, t631⟩, A1640, H⟩ := H; (try dsimp only at H); have A164 := Aside0.mk A1640; clear A1640; replace H := Option.bind_eq_some_iff.mp H; obtain ⟨⟨t632, t633⟩, A1650, H⟩ := H; (try dsimp only at H); have A165 := Aside0.mk A1650; clear A1650; replace H := Option.bind_eq_some_iff.mp H; obtain ⟨⟨t636, t637⟩, A1660, H⟩ := H; (try dsimp only at H); have A166 := Aside0.mk A1660; clear A1660; replace H := Option.bind_eq_some_iff.mp H; obtain ⟨⟨t640, t641, t642, t643, t644⟩, A1670, H⟩ := H; (try dsimp only at H); have A167 := Aside0.mk A1670; clear A1670; replace H := Option.bind_eq_some_iff.mp H; obtain ⟨⟨t646, t647, t648, t649, t650⟩, A1680, H⟩ := H; (try dsimp only at H); have A168 := Aside0.mk A1680; clear A1680; replace H := Option.bind_eq_some_iff.mp H; obtain ⟨⟨t652, t653, t654, t655, t656⟩, A1690, H⟩ := H; (try dsimp only at H); have A169 := Aside0.mk A1690; clear A1690; replace H := Option.bind_eq_some_iff.mp H; obtain ⟨t658, A1700, H⟩ := H; (try dsimp only at H); have A170 := Aside0.mk A1700; clear A1700; replace H := Option.bind_eq_some_iff.mp H; obtain ⟨⟨t659, t660, t661, t662, t663⟩, A1710, H⟩ := H
                     (try dsimp only at H); have A171 := Aside0.mk A1710; clear A1710; replace H := Option.bind_eq_some_iff.mp H; obtain ⟨⟨t665, t666, t667, t668, t669⟩, A1720, H⟩ := H; (try dsimp only at H); have A172 := Aside0.mk A1720; clear A1720; have HC173 := Aside0.mk H; clear H
                     as_aux_lemma =>
                      go_upto_region 48 with (first | ((with_reducible refine gate_callee (f := 21) rfl ?_); refine zG (some 408) Tryz.func21 #[.slice A1 l1.length c1] ?_; (with_reducible refine (spec_DrawSecondStep.calls _ _ l1 t610 t611 t612 t613 _ ?side1 ?side2 A159.out).mono ?_); (case side1 => repeat (first | exact (Kd.C_below HR1.out HB.out) | (with_reducible refine Kd.C_alloc ?_ _) | (with_reducible refine Kd.C_drewN ?_ _) | (with_reducible refine Kd.C_drew ?_))); (case side2 => exact HC1.out); rintro e w174 ⟨rfl, hb⟩; refine ⟨_, rfl, ?_⟩; replace HB := zh HB hb; clear hb) | ((with_reducible refine gate_callee (f := 17) rfl ?_); refine zG (some 418) Tryz.func17 #[.int .i64 t610, .int .i64 t611, .int .i64 t612, .int .i64 t613] ?_; (with_reducible refine (impl_SecondStep.calls kj145 t610 t611 t612 t613 t614 t615 t616 _ A160.out).mono ?_); rintro e w175 ⟨rfl, hb⟩; refine ⟨_, rfl, ?_⟩; replace HB := zh HB hb; clear hb) | ((with_reducible refine gate_callee (f := 22) rfl ?_); refine zG (some 427) Tryz.func22 #[.int .i64 t610, .int .i64 t611, .int .i64 t612, .int .i64 t613] ?_; (with_reducible refine (spec_SecondStep.calls kj145 t610 t611 t612 t613 t617 t618 t619 _ A161.out).mono ?_); rintro e w176 ⟨rfl, hb⟩; refine ⟨_, rfl, ?_⟩; replace HB := zh HB hb; clear hb) | ((with_reducible refine gate_callee (f := 19) rfl ?_); refine zG (some 436) Tryz.func19 #[.int .i64 t610, .int .i64 t611, .int .i64 t612, .int .i64 t613] ?_; (with_reducible refine (impl_StepsForIsland.calls kj145 t610 t611 t612 t613 t620 t621 t622 t623 t624 _ A162.out).mono ?_); rintro e w177 ⟨rfl, hb⟩; refine ⟨_, rfl, ?_⟩; replace HB := zh HB hb; clear hb) | ((with_reducible refine gate_callee (f := 23) rfl ?_); refine zG (some 447) Tryz.func23 #[.int .i64 t610, .int .i64 t611, .int .i64 t612, .int .i64 t613] ?_; (with_reducible refine (spec_StepsForIsland.calls kj145 t610 t611 t612 t613 t625 t626 t627 t628 t629 _ A163.out).mono ?_); rintro e w178 ⟨rfl, hb⟩; refine ⟨_, rfl, ?_⟩; replace HB := zh HB hb; clear hb) | ((with_reducible refine gate_callee (f := 24) rfl ?_); refine zG (some 455) Tryz.func24 #[.slice A1 l1.length c1] ?_; (with_reducible refine (spec_DrawWholeIslands.calls _ _ l1 t630 t631 _ ?side1 ?side2 A164.out).mono ?_); (case side1 => repeat (first | exact (Kd.C_below HR1.out HB.out) | (with_reducible refine Kd.C_alloc ?_ _) | (with_reducible refine Kd.C_drewN ?_ _) | (with_reducible refine Kd.C_drew ?_))); (case side2 => exact HC1.out); rintro e w179 ⟨rfl, hb⟩; refine ⟨_, rfl, ?_⟩; replace HB := zh HB hb; clear hb) | ((with_reducible refine gate_callee (f := 25) rfl ?_); refine zG (some 461) Tryz.func25 #[.int .i64 t630, .int .i64 t631] ?_; (with_reducible refine (impl_WholeIslands.calls kj145 t630 t631 t632 t633 _ A165.out).mono ?_); rintro e w180 ⟨v634, rfl, ho0, hb⟩; refine ⟨_, rfl, ?_⟩; have HO635 := Aside0.mk (Kd.S_lower ho0 (below_size (zy HB))); replace HB := zh HB hb; clear hb ho0) | ((with_reducible refine gate_callee (f := 26) rfl ?_); refine zG (some 467) Tryz.func26 #[.int .i64 t630, .int .i64 t631] ?_; (with_reducible refine (spec_WholeIslands.calls kj145 t630 t631 t636 t637 _ A166.out).mono ?_); rintro e w181 ⟨v638, rfl, ho0, hb⟩; refine ⟨_, rfl, ?_⟩; have n0_ := Aside0.mk (Kd.S_elder' zO4_2 (Kd.S_base ho0) hb); have HO639 := Aside0.mk (Kd.S_lower (Kd.S_new' ho0 (Kd.S_lt zO4_2)) (below_size (zy HB))); replace HB := zh HB hb; clear HO635; have HO635 := n0_; clear n0_; clear hb ho0) | ((with_reducible refine gate_callee (f := 27) rfl ?_); refine zG (some 472) Tryz.func27 #[.slice A1 l1.length c1] ?_; (with_reducible refine (spec_DrawTimesIsland.calls _ _ l1 t640 t641 t642 t643 t644 _ ?side1 ?side2 A167.out).mono ?_); (case side1 => repeat (first | exact (Kd.C_below HR1.out HB.out) | (with_reducible refine Kd.C_alloc ?_ _) | (with_reducible refine Kd.C_drewN ?_ _) | (with_reducible refine Kd.C_drew ?_))); (case side2 => exact HC1.out); rintro e w182 ⟨rfl, hb⟩; refine ⟨_, rfl, ?_⟩; have n0_ := Aside0.mk (Kd.S_below zO4_2 hb); have n1_ := Aside0.mk (Kd.S_below zO4_3 hb); replace HB := zh HB hb; clear HO635; have HO635 := n0_; clear n0_; clear HO639; have HO639 := n1_; clear n1_; clear hb) | ((with_reducible refine gate_dst (N := 68) rfl ?_); refine zE 68 #[.int .i64 0, .int .i64 0, .int .i64 0, .int .i64 0] 25 ?_; intro gb645 hg w183 hbox hb; have n0_ := Aside0.mk (Kd.S_below zO4_2 hb); have n1_ := Aside0.mk (Kd.S_below zO4_3 hb); have BK645 := Aside0.mk (hbox); have GW645 := zg HB hg; have GE645 := GW645; replace HB := zh HB hb; clear HO635; have HO635 := n0_; clear n0_; clear HO639; have HO639 := n1_; clear n1_; clear hb hbox hg; replace hz645 := zc4 BK645) | ((with_reducible refine gate_callee (f := 28) rfl ?_); refine zG (some 478) Tryz.func28 #[.agg #[.int .i64 t640, .int .i64 t641, .int .i64 t642, .int .i64 t643], .int .i64 t644] ?_; (with_reducible refine (impl_TimesIsland.calls t640 t641 t642 t643 t644 t646 t647 t648 t649 t650 _ A168.out).mono ?_); rintro e w185 ⟨rfl, hb⟩; refine ⟨_, rfl, ?_⟩; have n0_ := Aside0.mk (Kd.S_below (by (with_reducible repeat (first | apply Kd.S_alloc | apply Kd.S_drewN | apply Kd.S_drew)); exact (Kd.S_mono (Kd.S_far (p := ⟨gb645, 3, none⟩) (Kd.S_far (p := ⟨gb645, 2, none⟩) (Kd.S_far (p := ⟨gb645, 1, none⟩) (Kd.S_far (p := ⟨gb645, 0, none⟩) (Kd.S_types HO635.out BK645.out (by decide)) (fun _ hk => hk.2) (.int .i64 t640)) (fun _ hk => hk.2) (.int .i64 t641)) (fun _ hk => hk.2) (.int .i64 t642)) (fun _ hk => hk.2) (.int .i64 t643)) (fun _ h_ => h_.1))) hb); have n1_ := Aside0.mk (Kd.S_below (by (with_reducible repeat (first | apply Kd.S_alloc | apply Kd.S_drewN | apply Kd.S_drew)); exact (Kd.S_mono (Kd.S_far (p := ⟨gb645, 3, none⟩) (Kd.S_far (p := ⟨gb645, 2, none⟩) (Kd.S_far (p := ⟨gb645, 1, none⟩) (Kd.S_far (p := ⟨gb645, 0, none⟩) (Kd.S_types HO639.out BK645.out (by decide)) (fun _ hk => hk.2) (.int .i64 t640)) (fun _ hk => hk.2) (.int .i64 t641)) (fun _ hk => hk.2) (.int .i64 t642)) (fun _ hk => hk.2) (.int .i64 t643)) (fun _ h_ => h_.1))) hb); have n2_ := Aside0.mk (blk_below (g := gb645) (o := .cells #[.int .i64 t640, .int .i64 t641, .int .i64 t642, .int .i64 t643] 25 (0, 0)) (zw BK645) hb); replace HB := zh HB hb; clear HO635; have HO635 := n0_; clear n0_; clear HO639; have HO639 := n1_; clear n1_; clear BK645; have BK645 := n2_; clear n2_; clear hb) | ((with_reducible refine gate_dst (N := 70) rfl ?_); refine zE 70 #[.int .i64 0, .int .i64 0, .int .i64 0, .int .i64 0] 25 ?_; intro gb651 hg w186 hbox hb; have n0_ := Aside0.mk (Kd.S_below zO4_2 hb); have n1_ := Aside0.mk (Kd.S_below zO4_3 hb); have BK651 := Aside0.mk (hbox); have GW651 := zg HB hg; have GE651 := GW651; have NB645_651 := zl BK645 hg; have NB651_645 := zr BK645 hg; replace BK645 := zb BK645 hb; replace HB := zh HB hb; clear HO635; have HO635 := n0_; clear n0_; clear HO639; have HO639 := n1_; clear n1_; clear hb hbox hg; replace hNB651_645 := NB651_645.out; replace hNB645_651 := NB645_651.out; replace hz651 := zc4 BK651; replace hz645 := zc4 BK645) | ((with_reducible refine gate_callee (f := 29) rfl ?_); refine zG (some 484) Tryz.func29 #[.agg #[.int .i64 t640, .int .i64 t641, .int .i64 t642, .int .i64 t643], .int .i64 t644] ?_; (with_reducible refine (spec_TimesIsland.calls kj145 t640 t641 t642 t643 t644 t652 t653 t654 t655 t656 _ A169.out).mono ?_); rintro e w190 ⟨rfl, hb⟩; refine ⟨_, rfl, ?_⟩; have n0_ := Aside0.mk (Kd.S_below (by (with_reducible repeat (first | apply Kd.S_alloc | apply Kd.S_drewN | apply Kd.S_drew)); exact (Kd.S_mono (Kd.S_far (p := ⟨gb651, 3, none⟩) (Kd.S_far (p := ⟨gb651, 2, none⟩) (Kd.S_far (p := ⟨gb651, 1, none⟩) (Kd.S_far (p := ⟨gb651, 0, none⟩) (Kd.S_types HO635.out BK651.out (by decide)) (fun _ hk => hk.2) (.int .i64 t646)) (fun _ hk => hk.2) (.int .i64 t647)) (fun _ hk => hk.2) (.int .i64 t648)) (fun _ hk => hk.2) (.int .i64 t649)) (fun _ h_ => h_.1))) hb); have n1_ := Aside0.mk (Kd.S_below (by (with_reducible repeat (first | apply Kd.S_alloc | apply Kd.S_drewN | apply Kd.S_drew)); exact (Kd.S_mono (Kd.S_far (p := ⟨gb651, 3, none⟩) (Kd.S_far (p := ⟨gb651, 2, none⟩) (Kd.S_far (p := ⟨gb651, 1, none⟩) (Kd.S_far (p := ⟨gb651, 0, none⟩) (Kd.S_types HO639.out BK651.out (by decide)) (fun _ hk => hk.2) (.int .i64 t646)) (fun _ hk => hk.2) (.int .i64 t647)) (fun _ hk => hk.2) (.int .i64 t648)) (fun _ hk => hk.2) (.int .i64 t649)) (fun _ h_ => h_.1))) hb); have n3_ := Aside0.mk (blk_below (g := gb651) (o := .cells #[.int .i64 t646, .int .i64 t647, .int .i64 t648, .int .i64 t649] 25 (0, 0)) (zw BK651) hb); replace BK645 := zb BK645 hb; replace HB := zh HB hb; clear HO635; have HO635 := n0_; clear n0_; clear HO639; have HO639 := n1_; clear n1_; clear BK651; have BK651 := n3_; clear n3_; clear hb) | ((with_reducible refine gate_dst (N := 72) rfl ?_); refine zE 72 #[.int .i64 0, .int .i64 0, .int .i64 0, .int .i64 0] 25 ?_; intro gb657 hg w191 hbox hb; have n0_ := Aside0.mk (Kd.S_below zO4_2 hb); have n1_ := Aside0.mk (Kd.S_below zO4_3 hb); have BK657 := Aside0.mk (hbox); have GW657 := zg HB hg; have GE657 := GW657; have NB645_657 := zl BK645 hg; have NB657_645 := zr BK645 hg; have NB651_657 := zl BK651 hg; have NB657_651 := zr BK651 hg; replace BK645 := zb BK645 hb; replace BK651 := zb BK651 hb; replace HB := zh HB hb; clear HO635; have HO635 := n0_; clear n0_; clear HO639; have HO639 := n1_; clear n1_; clear hb hbox hg; replace hNB657_645 := NB657_645.out; replace hNB645_657 := NB645_657.out; replace hNB657_651 := NB657_651.out; replace hNB651_657 := NB651_657.out; replace hz657 := zc4 BK657) | ((with_reducible refine gate_callee (f := 30) rfl ?_); refine zG (some 488) Tryz.func30 #[.slice A1 l1.length c1] ?_; (with_reducible refine (spec_DrawParseIsland.calls kj145 _ _ l1 t658 _ ?side1 ?side2 A170.out).mono ?_); (case side1 => exact Kd.C_below HR1.out (zy HB)); (case side2 => exact HC1.out); rintro e w195 ⟨rfl, hb⟩; refine ⟨_, rfl, ?_⟩; have n0_ := Aside0.mk (Kd.S_below (by (with_reducible repeat (first | apply Kd.S_alloc | apply Kd.S_drewN | apply Kd.S_drew)); exact (Kd.S_mono (Kd.S_far (p := ⟨gb657, 3, none⟩) (Kd.S_far (p := ⟨gb657, 2, none⟩) (Kd.S_far (p := ⟨gb657, 1, none⟩) (Kd.S_far (p := ⟨gb657, 0, none⟩) (Kd.S_types HO635.out BK657.out (by decide)) (fun _ hk => hk.2) (.int .i64 t652)) (fun _ hk => hk.2) (.int .i64 t653)) (fun _ hk => hk.2) (.int .i64 t654)) (fun _ hk => hk.2) (.int .i64 t655)) (fun _ h_ => h_.1))) hb); have n1_ := Aside0.mk (Kd.S_below (by (with_reducible repeat (first | apply Kd.S_alloc | apply Kd.S_drewN | apply Kd.S_drew)); exact (Kd.S_mono (Kd.S_far (p := ⟨gb657, 3, none⟩) (Kd.S_far (p := ⟨gb657, 2, none⟩) (Kd.S_far (p := ⟨gb657, 1, none⟩) (Kd.S_far (p := ⟨gb657, 0, none⟩) (Kd.S_types HO639.out BK657.out (by decide)) (fun _ hk => hk.2) (.int .i64 t652)) (fun _ hk => hk.2) (.int .i64 t653)) (fun _ hk => hk.2) (.int .i64 t654)) (fun _ hk => hk.2) (.int .i64 t655)) (fun _ h_ => h_.1))) hb); have n4_ := Aside0.mk (blk_below (g := gb657) (o := .cells #[.int .i64 t652, .int .i64 t653, .int .i64 t654, .int .i64 t655] 25 (0, 0)) (zw BK657) hb); replace BK645 := zb BK645 hb; replace BK651 := zb BK651 hb; replace HB := zh HB hb; clear HO635; have HO635 := n0_; clear n0_; clear HO639; have HO639 := n1_; clear n1_; clear BK657; have BK657 := n4_; clear n4_; clear hb) | ((with_reducible refine gate_callee (f := 20) rfl ?_); refine zG (some 491) Tryz.func20 #[.string t658] ?_; (with_reducible refine (impl_ParseIsland.calls t658 t659 t660 t661 t662 t663 _ (LaidQ.below HL_.out (zy HB)) A171.out).mono ?_); rintro e w196 ⟨rfl, hb⟩; refine ⟨_, rfl, ?_⟩; have n0_ := Aside0.mk (Kd.S_below zO4_2 hb); have n1_ := Aside0.mk (Kd.S_below zO4_3 hb); replace BK645 := zb BK645 hb; replace BK651 := zb BK651 hb; replace BK657 := zb BK657 hb; replace HB := zh HB hb; clear HO635; have HO635 := n0_; clear n0_; clear HO639; have HO639 := n1_; clear n1_; clear hb) | ((with_reducible refine gate_dst (N := 75) rfl ?_); refine zE 75 #[.int .i64 0, .int .i64 0, .int .i64 0, .int .i64 0] 25 ?_; intro gb664 hg w197 hbox hb; have n0_ := Aside0.mk (Kd.S_below zO4_2 hb); have n1_ := Aside0.mk (Kd.S_below zO4_3 hb); have BK664 := Aside0.mk (hbox); have GW664 := zg HB hg; have GE664 := GW664; have NB645_664 := zl BK645 hg; have NB664_645 := zr BK645 hg; have NB651_664 := zl BK651 hg; have NB664_651 := zr BK651 hg; have NB657_664 := zl BK657 hg; have NB664_657 := zr BK657 hg; replace BK645 := zb BK645 hb; replace BK651 := zb BK651 hb; replace BK657 := zb BK657 hb; replace HB := zh HB hb; clear HO635; have HO635 := n0_; clear n0_; clear HO639; have HO639 := n1_; clear n1_; clear hb hbox hg; replace hNB664_645 := NB664_645.out; replace hNB645_664 := NB645_664.out; replace hNB664_651 := NB664_651.out; replace hNB651_664 := NB651_664.out; replace hNB664_657 := NB664_657.out; replace hNB657_664 := NB657_664.out; replace hz664 := zc4 BK664) | ((with_reducible refine gate_callee (f := 31) rfl ?_); refine zG (some 496) Tryz.func31 #[.string t658] ?_; (with_reducible refine (spec_ParseIsland.calls kj145 t658 t665 t666 t667 t668 t669 _ A172.out).mono ?_); rintro e w202 ⟨rfl, hb⟩; refine ⟨_, rfl, ?_⟩; have n0_ := Aside0.mk (Kd.S_below (by (with_reducible repeat (first | apply Kd.S_alloc | apply Kd.S_drewN | apply Kd.S_drew)); exact (Kd.S_mono (Kd.S_far (p := ⟨gb664, 3, none⟩) (Kd.S_far (p := ⟨gb664, 2, none⟩) (Kd.S_far (p := ⟨gb664, 1, none⟩) (Kd.S_far (p := ⟨gb664, 0, none⟩) (Kd.S_types HO635.out BK664.out (by decide)) (fun _ hk => hk.2) (.int .i64 t659)) (fun _ hk => hk.2) (.int .i64 t660)) (fun _ hk => hk.2) (.int .i64 t661)) (fun _ hk => hk.2) (.int .i64 t662)) (fun _ h_ => h_.1))) hb); have n1_ := Aside0.mk (Kd.S_below (by (with_reducible repeat (first | apply Kd.S_alloc | apply Kd.S_drewN | apply Kd.S_drew)); exact (Kd.S_mono (Kd.S_far (p := ⟨gb664, 3, none⟩) (Kd.S_far (p := ⟨gb664, 2, none⟩) (Kd.S_far (p := ⟨gb664, 1, none⟩) (Kd.S_far (p := ⟨gb664, 0, none⟩) (Kd.S_types HO639.out BK664.out (by decide)) (fun _ hk => hk.2) (.int .i64 t659)) (fun _ hk => hk.2) (.int .i64 t660)) (fun _ hk => hk.2) (.int .i64 t661)) (fun _ hk => hk.2) (.int .i64 t662)) (fun _ h_ => h_.1))) hb); have n5_ := Aside0.mk (blk_below (g := gb664) (o := .cells #[.int .i64 t659, .int .i64 t660, .int .i64 t661, .int .i64 t662] 25 (0, 0)) (zw BK664) hb); replace BK645 := zb BK645 hb; replace BK651 := zb BK651 hb; replace BK657 := zb BK657 hb; replace HB := zh HB hb; clear HO635; have HO635 := n0_; clear n0_; clear HO639; have HO639 := n1_; clear n1_; clear BK664; have BK664 := n5_; clear n5_; clear hb) | ((with_reducible refine gate_dst (N := 77) rfl ?_); refine zE 77 #[.int .i64 0, .int .i64 0, .int .i64 0, .int .i64 0] 25 ?_; intro gb670 hg w203 hbox hb; have n0_ := Aside0.mk (Kd.S_below zO4_2 hb); have n1_ := Aside0.mk (Kd.S_below zO4_3 hb); have BK670 := Aside0.mk (hbox); have GW670 := zg HB hg; have GE670 := GW670; have NB645_670 := zl BK645 hg; have NB670_645 := zr BK645 hg; have NB651_670 := zl BK651 hg; have NB670_651 := zr BK651 hg; have NB657_670 := zl BK657 hg; have NB670_657 := zr BK657 hg; have NB664_670 := zl BK664 hg; have NB670_664 := zr BK664 hg; replace BK645 := zb BK645 hb; replace BK651 := zb BK651 hb; replace BK657 := zb BK657 hb; replace BK664 := zb BK664 hb; replace HB := zh HB hb; clear HO635; have HO635 := n0_; clear n0_; clear HO639; have HO639 := n1_; clear n1_; clear hb hbox hg; replace hNB670_645 := NB670_645.out; replace hNB645_670 := NB645_670.out; replace hNB670_651 := NB670_651.out; replace hNB651_670 := NB651_670.out; replace hNB670_657 := NB670_657.out; replace hNB657_670 := NB657_670.out; replace hNB670_664 := NB670_664.out; replace hNB664_670 := NB664_670.out; replace hz670 := zc4 BK670))
                      (try simp only [Act.put, List.setIfInBounds_toArray, List.set_cons_zero, List.set_cons_succ])
                      go_cut [567] from 406 to 498 (fun v567 wc => ∃ (kq : Nat) (x567_172 : Bool), v567 = .bool x567_172 ∧ Aside0 (laws_FnIslandsMeasured.j8 kq t612 t614 t615 t616 t620 t621 t622 t623 t624 t630 t631 t632 t633 t644 t650 t658 t663 x567_172 t640 t641 t642 t643 t646 t647 t648 t649 t659 t660 t661 t662 = some r) ∧ Aside0 (kq ≤ kj145) ∧ Aside0 (Kd.S (Kd.slice 3 (Kd.int .i64)) 51 wc w.heap.size (fun _ => True) v634 t632) ∧ Aside0 (wc.heap[gb645]? = some (.cells #[.int .i64 t640, .int .i64 t641, .int .i64 t642, .int .i64 t643] 25 (0, 0))) ∧ Aside0 (wc.heap[gb651]? = some (.cells #[.int .i64 t646, .int .i64 t647, .int .i64 t648, .int .i64 t649] 25 (0, 0))) ∧ Aside0 (wc.heap[gb664]? = some (.cells #[.int .i64 t659, .int .i64 t660, .int .i64 t661, .int .i64 t662] 25 (0, 0))) ∧ Aside0 (Below w.heap.size w wc))
                      case first =>
                        (try simp only [List.append_eq, List.cons_append, List.nil_append])
                        have H := HC173.out; clear HC173
                        by_cases c209 : (t616 != t619) = true
                        · rw [if_pos c209] at H
                          have c209b0 : (t616 != t619) = true := c209
                          (try (have c209b1 : decide (t616 = t619) = false := by simpa using c209))
                          (try (have c209b2 : (t616 == t619) = false := by simpa using c209))
                          (try (have c209b3 : ¬ (t616 = t619) := by simpa using c209))
                          clear c209
                          (first | rw [c209b0] | (simp only [i64_w, i32_w]; rw [c209b0]) | skip)
                          exact absurd (HR_.out.symm.trans (laws_FnIslandsMeasured.j8_true _ _ _ _ _ _ _ _ _ _ _ _ _ _ _ _ _ _ _ _ _ _ _ _ _ _ _ _ _ _ _ H)) (by decide)
                        · rw [if_neg c209] at H
                          have c209b0 : (t616 != t619) = false := by simpa using c209
                          (try (have c209b1 : decide (t616 = t619) = true := by simpa using c209))
                          (try (have c209b2 : (t616 == t619) = true := by simpa using c209))
                          clear c209
                          (first | rw [c209b0] | (simp only [i64_w, i32_w]; rw [c209b0]) | skip)
                          by_cases c210 : t614 = t617
                          · rw [if_pos c210] at H
                            have c210b0 : (t614 == t617) = true := beq_iff_eq.mpr c210
                            have c210b1 : (t614 != t617) = false := bne_eq_false_iff_eq.mpr c210
                            clear c210
                            by_cases c211 : t615 = t618
                            · rw [if_pos c211] at H
                              have c211b0 : (t615 == t618) = true := beq_iff_eq.mpr c211
                              have c211b1 : (t615 != t618) = false := bne_eq_false_iff_eq.mpr c211
                              clear c211
                              by_cases c212 : (t624 != t629) = true
                              · rw [if_pos c212] at H
                                have c212b0 : (t624 != t629) = true := c212
                                (try (have c212b1 : decide (t624 = t629) = false := by simpa using c212))
                                (try (have c212b2 : (t624 == t629) = false := by simpa using c212))
                                (try (have c212b3 : ¬ (t624 = t629) := by simpa using c212))
                                clear c212
                                exact absurd (HR_.out.symm.trans (laws_FnIslandsMeasured.j8_true _ _ _ _ _ _ _ _ _ _ _ _ _ _ _ _ _ _ _ _ _ _ _ _ _ _ _ _ _ _ _ H)) (by decide)
                              · rw [if_neg c212] at H
                                have c212b0 : (t624 != t629) = false := by simpa using c212
                                (try (have c212b1 : decide (t624 = t629) = true := by simpa using c212))
                                (try (have c212b2 : (t624 == t629) = true := by simpa using c212))
                                clear c212
                                by_cases c213 : t620 = t625
                                · rw [if_pos c213] at H
                                  have c213b0 : (t620 == t625) = true := beq_iff_eq.mpr c213
                                  have c213b1 : (t620 != t625) = false := bne_eq_false_iff_eq.mpr c213
                                  clear c213
                                  by_cases c214 : t621 = t626
                                  · rw [if_pos c214] at H
                                    have c214b0 : (t621 == t626) = true := beq_iff_eq.mpr c214
                                    have c214b1 : (t621 != t626) = false := bne_eq_false_iff_eq.mpr c214
                                    clear c214
                                    by_cases c215 : t622 = t627
                                    · rw [if_pos c215] at H
                                      have c215b0 : (t622 == t627) = true := beq_iff_eq.mpr c215
                                      have c215b1 : (t622 != t627) = false := bne_eq_false_iff_eq.mpr c215
                                      clear c215
                                      by_cases c216 : t623 = t628
                                      · rw [if_pos c216] at H
                                        have c216b0 : (t623 == t628) = true := beq_iff_eq.mpr c216
                                        have c216b1 : (t623 != t628) = false := bne_eq_false_iff_eq.mpr c216
                                        clear c216
                                        by_cases c217 : (t633 != t637) = true
                                        · rw [if_pos c217] at H
                                          have c217b0 : (t633 != t637) = true := c217
                                          (try (have c217b1 : decide (t633 = t637) = false := by simpa using c217))
                                          (try (have c217b2 : (t633 == t637) = false := by simpa using c217))
                                          (try (have c217b3 : ¬ (t633 = t637) := by simpa using c217))
                                          clear c217
                                          exact absurd (HR_.out.symm.trans (laws_FnIslandsMeasured.j8_true _ _ _ _ _ _ _ _ _ _ _ _ _ _ _ _ _ _ _ _ _ _ _ _ _ _ _ _ _ _ _ H)) (by decide)
                                        · rw [if_neg c217] at H
                                          have c217b0 : (t633 != t637) = false := by simpa using c217
                                          (try (have c217b1 : decide (t633 = t637) = true := by simpa using c217))
                                          (try (have c217b2 : (t633 == t637) = true := by simpa using c217))
                                          clear c217; replace H := Option.bind_eq_some_iff.mp H; obtain ⟨t671, A2180, H⟩ := H; (try dsimp only at H); have A218 := Aside0.mk A2180; clear A2180
                                          by_cases c219 : t671 = true
                                          · subst c219
                                            rw [if_pos rfl] at H
                                            by_cases c220 : (t650 != t656) = true
                                            · rw [if_pos c220] at H
                                              have c220b0 : (t650 != t656) = true := c220
                                              (try (have c220b1 : decide (t650 = t656) = false := by simpa using c220))
                                              (try (have c220b2 : (t650 == t656) = false := by simpa using c220))
                                              (try (have c220b3 : ¬ (t650 = t656) := by simpa using c220))
                                              clear c220
                                              exact absurd (HR_.out.symm.trans (laws_FnIslandsMeasured.j8_true _ _ _ _ _ _ _ _ _ _ _ _ _ _ _ _ _ _ _ _ _ _ _ _ _ _ _ _ _ _ _ H)) (by decide)
                                            · rw [if_neg c220] at H
                                              have c220b0 : (t650 != t656) = false := by simpa using c220
                                              (try (have c220b1 : decide (t650 = t656) = true := by simpa using c220))
                                              (try (have c220b2 : (t650 == t656) = true := by simpa using c220))
                                              clear c220
                                              by_cases c223 : (!(t646 == t652) || (!(t647 == t653) || (!(t648 == t654) || (!(t649 == t655))))) = true
                                              · rw [if_pos c223] at H
                                                have c223b0 : (!(t646 == t652) || (!(t647 == t653) || (!(t648 == t654) || (!(t649 == t655))))) = true := c223
                                                clear c223
                                                exact absurd (HR_.out.symm.trans (laws_FnIslandsMeasured.j8_true _ _ _ _ _ _ _ _ _ _ _ _ _ _ _ _ _ _ _ _ _ _ _ _ _ _ _ _ _ _ _ H)) (by decide)
                                              · rw [if_neg c223] at H
                                                have c223b0 : (!(t646 == t652) || (!(t647 == t653) || (!(t648 == t654) || (!(t649 == t655))))) = false := by simpa using c223
                                                clear c223
                                                by_cases c235 : (t663 != t669) = true
                                                · rw [if_pos c235] at H
                                                  have c235b0 : (t663 != t669) = true := c235
                                                  (try (have c235b1 : decide (t663 = t669) = false := by simpa using c235))
                                                  (try (have c235b2 : (t663 == t669) = false := by simpa using c235))
                                                  (try (have c235b3 : ¬ (t663 = t669) := by simpa using c235))
                                                  clear c235
                                                  exact absurd (HR_.out.symm.trans (laws_FnIslandsMeasured.j8_true _ _ _ _ _ _ _ _ _ _ _ _ _ _ _ _ _ _ _ _ _ _ _ _ _ _ _ _ _ _ _ H)) (by decide)
                                                · rw [if_neg c235] at H
                                                  have c235b0 : (t663 != t669) = false := by simpa using c235
                                                  (try (have c235b1 : decide (t663 = t669) = true := by simpa using c235))
                                                  (try (have c235b2 : (t663 == t669) = true := by simpa using c235))
                                                  clear c235; have H' := Aside0.mk H; clear H
                                                  obtain ⟨Ao247, co247, eo247⟩ := Kd.S_slice HO635.out
                                                  subst eo247
                                                  obtain ⟨Ao248, co248, eo248⟩ := Kd.S_slice HO639.out
                                                  subst eo248
                                                  as_aux_lemma =>
                                                   go_wp2_with (first | (go_at_call 32; (with_reducible refine (laws_yRows.calls kj145 _ _ t632 _ _ t636 true _ ?side1 ?side2 ?side3 ?side4 A218.out).mono ?_); (case side1 => refine (Kd.S_reads' (e := 51) (base := w.heap.size) (ok := fun k_ => (True ∧ some k_ ≠ (.slice Ao248 t636.length co248 : Value).ownBlock)) (n := t632.length) (c := co247) ?_).2.2; exact (by (with_reducible repeat (first | apply Kd.S_alloc | apply Kd.S_drewN | apply Kd.S_drew)); exact (Kd.S_mono (Kd.S_far (p := ⟨gb670, 3, none⟩) (Kd.S_far (p := ⟨gb670, 2, none⟩) (Kd.S_far (p := ⟨gb670, 1, none⟩) (Kd.S_far (p := ⟨gb670, 0, none⟩) (Kd.S_types HO635.out BK670.out (by decide)) (fun _ hk => hk.2) (.int .i64 t665)) (fun _ hk => hk.2) (.int .i64 t666)) (fun _ hk => hk.2) (.int .i64 t667)) (fun _ hk => hk.2) (.int .i64 t668)) (fun _ h_ => h_.1)))); (case side2 => exact (Kd.S_reads' HO635.out).2.1); (case side3 => refine (Kd.S_reads' (e := 51) (base := w.heap.size) (ok := fun k_ => (True ∧ some k_ ≠ (.slice Ao247 t632.length co247 : Value).ownBlock)) (n := t636.length) (c := co248) ?_).2.2; exact (by (with_reducible repeat (first | apply Kd.S_alloc | apply Kd.S_drewN | apply Kd.S_drew)); exact (Kd.S_mono (Kd.S_far (p := ⟨gb670, 3, none⟩) (Kd.S_far (p := ⟨gb670, 2, none⟩) (Kd.S_far (p := ⟨gb670, 1, none⟩) (Kd.S_far (p := ⟨gb670, 0, none⟩) (Kd.S_types HO639.out BK670.out (by decide)) (fun _ hk => hk.2) (.int .i64 t665)) (fun _ hk => hk.2) (.int .i64 t666)) (fun _ hk => hk.2) (.int .i64 t667)) (fun _ hk => hk.2) (.int .i64 t668)) (fun _ h_ => h_.1)))); (case side4 => exact (Kd.S_reads' HO639.out).2.1); rintro e w' ⟨rfl, ⟨nd, rfl⟩⟩; replace hNB651_645 := NB651_645.out; replace hNB645_651 := NB645_651.out; replace hNB651_657 := NB651_657.out; replace hNB657_651 := NB657_651.out; replace hNB651_664 := NB651_664.out; replace hNB664_651 := NB664_651.out; replace hNB651_670 := NB651_670.out; replace hNB670_651 := NB670_651.out; replace hz651 := zc4 BK651; replace hNB657_645 := NB657_645.out; replace hNB645_657 := NB645_657.out; replace hNB657_664 := NB657_664.out; replace hNB664_657 := NB664_657.out; replace hNB657_670 := NB657_670.out; replace hNB670_657 := NB670_657.out; replace hz657 := zc4 BK657; replace hNB664_645 := NB664_645.out; replace hNB645_664 := NB645_664.out; replace hNB664_670 := NB664_670.out; replace hNB670_664 := NB670_664.out; replace hz664 := zc4 BK664; replace hNB670_645 := NB670_645.out; replace hNB645_670 := NB645_670.out; replace hz670 := zc4 BK670))
                                                   go_meet
                                                   case rel => exact ⟨_, ((!(t659 == t665) || (!(t660 == t666) || (!(t661 == t667) || (!(t662 == t668)))))), zu, H', ⟨by have := HJ13.out; have := HJ85.out; have := HJ145.out; first | omega | exact Nat.le_refl _⟩, ⟨by (with_reducible repeat (first | apply Kd.S_alloc | apply Kd.S_drewN | apply Kd.S_drew)); exact Kd.S_mono (Kd.S_far (p := ⟨gb670, 3, none⟩) (Kd.S_far (p := ⟨gb670, 2, none⟩) (Kd.S_far (p := ⟨gb670, 1, none⟩) (Kd.S_far (p := ⟨gb670, 0, none⟩) (Kd.S_types HO635.out BK670.out (by decide)) (fun _ hk => hk.2) (.int .i64 t665)) (fun _ hk => hk.2) (.int .i64 t666)) (fun _ hk => hk.2) (.int .i64 t667)) (fun _ hk => hk.2) (.int .i64 t668)) (fun _ hk => trivial)⟩, zk BK645, zk BK651, zk BK664, ⟨zy HB⟩⟩
                                          · replace c219 := Bool.eq_false_iff.mpr c219
                                            subst c219; rw [if_neg (show ¬ (false = true) by decide)] at H
                                            exact absurd (HR_.out.symm.trans (laws_FnIslandsMeasured.j8_true _ _ _ _ _ _ _ _ _ _ _ _ _ _ _ _ _ _ _ _ _ _ _ _ _ _ _ _ _ _ _ H)) (by decide)
                                      · rw [if_neg c216] at H
                                        have c216b0 : (t623 == t628) = false := beq_eq_false_iff_ne.mpr c216
                                        have c216b1 : (t623 != t628) = true := bne_iff_ne.mpr c216
                                        exact absurd (HR_.out.symm.trans (laws_FnIslandsMeasured.j8_true _ _ _ _ _ _ _ _ _ _ _ _ _ _ _ _ _ _ _ _ _ _ _ _ _ _ _ _ _ _ _ H)) (by decide)
                                    · rw [if_neg c215] at H
                                      have c215b0 : (t622 == t627) = false := beq_eq_false_iff_ne.mpr c215
                                      have c215b1 : (t622 != t627) = true := bne_iff_ne.mpr c215
                                      exact absurd (HR_.out.symm.trans (laws_FnIslandsMeasured.j8_true _ _ _ _ _ _ _ _ _ _ _ _ _ _ _ _ _ _ _ _ _ _ _ _ _ _ _ _ _ _ _ H)) (by decide)
                                  · rw [if_neg c214] at H
                                    have c214b0 : (t621 == t626) = false := beq_eq_false_iff_ne.mpr c214
                                    have c214b1 : (t621 != t626) = true := bne_iff_ne.mpr c214
                                    exact absurd (HR_.out.symm.trans (laws_FnIslandsMeasured.j8_true _ _ _ _ _ _ _ _ _ _ _ _ _ _ _ _ _ _ _ _ _ _ _ _ _ _ _ _ _ _ _ H)) (by decide)
                                · rw [if_neg c213] at H
                                  have c213b0 : (t620 == t625) = false := beq_eq_false_iff_ne.mpr c213
                                  have c213b1 : (t620 != t625) = true := bne_iff_ne.mpr c213
                                  exact absurd (HR_.out.symm.trans (laws_FnIslandsMeasured.j8_true _ _ _ _ _ _ _ _ _ _ _ _ _ _ _ _ _ _ _ _ _ _ _ _ _ _ _ _ _ _ _ H)) (by decide)
                            · rw [if_neg c211] at H
                              have c211b0 : (t615 == t618) = false := beq_eq_false_iff_ne.mpr c211
                              have c211b1 : (t615 != t618) = true := bne_iff_ne.mpr c211
                              exact absurd (HR_.out.symm.trans (laws_FnIslandsMeasured.j8_true _ _ _ _ _ _ _ _ _ _ _ _ _ _ _ _ _ _ _ _ _ _ _ _ _ _ _ _ _ _ _ H)) (by decide)
                          · rw [if_neg c210] at H
                            have c210b0 : (t614 == t617) = false := beq_eq_false_iff_ne.mpr c210
                            have c210b1 : (t614 != t617) = true := bne_iff_ne.mpr c210
                            exact absurd (HR_.out.symm.trans (laws_FnIslandsMeasured.j8_true _ _ _ _ _ _ _ _ _ _ _ _ _ _ _ _ _ _ _ _ _ _ _ _ _ _ _ _ _ _ _ H)) (by decide)
                      case rest =>
                        (try clear hz548); (try clear hz592); (try clear hz598); (try clear hz604); (try clear hz605); (try clear hz645); (try clear hz651); (try clear hz657); (try clear hz664); (try clear hz670)
                        clear HC173
                        obtain ⟨kq, x567_172, rfl, HA, HJ172, HO_64, BK645, BK651, BK664, HB⟩ := hcut
                        cases kq with
                        | zero => exact absurd HA.out (by simp [laws_FnIslandsMeasured.j8])
                        | succ kj172 =>
                          have H := HA.out; clear HA; simp only [laws_FnIslandsMeasured.j8] at H
                          by_cases c265 : x567_172 = true
                          · subst c265
                            rw [if_pos rfl] at H
                            obtain rfl := Option.some.inj H
                            exact absurd HR_.out (by decide)
                          · replace c265 := Bool.eq_false_iff.mpr c265
                            subst c265; rw [if_neg (show ¬ (false = true) by decide)] at H; have HC266 := Aside0.mk H; clear H
                            as_aux_lemma =>
                             go_upto_region 50 with (fail)
                             go_cut [581] from 1 to 0 (fun v581 wc => ∃ (kq : Nat) (x581_265 : Bool), v581 = .bool x581_265 ∧ Aside0 (laws_FnIslandsMeasured.j9 kq t620 t621 t622 t623 t624 t630 t631 t632 t633 t644 t650 t658 t663 x581_265 t640 t641 t642 t643 t646 t647 t648 t649 t659 t660 t661 t662 = some r) ∧ Aside0 (kq ≤ kj172) ∧ Aside0 (Kd.S (Kd.slice 3 (Kd.int .i64)) 51 wc w.heap.size (fun _ => True) v634 t632) ∧ Aside0 (wc.heap[gb645]? = some (.cells #[.int .i64 t640, .int .i64 t641, .int .i64 t642, .int .i64 t643] 25 (0, 0))) ∧ Aside0 (wc.heap[gb651]? = some (.cells #[.int .i64 t646, .int .i64 t647, .int .i64 t648, .int .i64 t649] 25 (0, 0))) ∧ Aside0 (wc.heap[gb664]? = some (.cells #[.int .i64 t659, .int .i64 t660, .int .i64 t661, .int .i64 t662] 25 (0, 0))) ∧ Aside0 (Below w.heap.size w wc))
                             case first =>
                               have H := HC266.out; clear HC266
                               by_cases c267 : t616 = true
                               · subst c267
                                 rw [if_pos rfl] at H; replace H := Option.bind_eq_some_iff.mp H; obtain ⟨t672, A2680, H⟩ := H; (try dsimp only at H); have A268 := Aside0.mk A2680; clear A2680
                                 by_cases c269 : t672 = true
                                 · subst c269
                                   rw [if_pos rfl] at H; have H' := Aside0.mk H; clear H
                                   as_aux_lemma =>
                                    go_wp2_with (first | (go_at_call 16; (with_reducible refine (laws_yLow.calls kj172 t614 t615 true _ A268.out).mono ?_); rintro e w' ⟨rfl, ⟨nd, rfl⟩⟩))
                                    go_meet
                                    case rel => exact ⟨_, (decide (t614 ≤ (wrap64 (t612 * t615)))), zu, H', ⟨by have := HJ13.out; have := HJ85.out; have := HJ145.out; have := HJ172.out; first | omega | exact Nat.le_refl _⟩, ⟨by (with_reducible repeat (first | apply Kd.S_alloc | apply Kd.S_drewN | apply Kd.S_drew)); exact HO_64.out⟩, zk BK645, zk BK651, zk BK664, ⟨zy HB⟩⟩
                                 · replace c269 := Bool.eq_false_iff.mpr c269
                                   subst c269; rw [if_neg (show ¬ (false = true) by decide)] at H
                                   exact absurd (HR_.out.symm.trans (laws_FnIslandsMeasured.j9_true _ _ _ _ _ _ _ _ _ _ _ _ _ _ _ _ _ _ _ _ _ _ _ _ _ _ _ H)) (by decide)
                               · replace c267 := Bool.eq_false_iff.mpr c267
                                 subst c267; rw [if_neg (show ¬ (false = true) by decide)] at H; have H' := Aside0.mk H; clear H
                                 as_aux_lemma =>
                                  go_wp2
                                  go_meet
                                  case rel => exact ⟨_, (false), zu, H', ⟨by have := HJ13.out; have := HJ85.out; have := HJ145.out; have := HJ172.out; first | omega | exact Nat.le_refl _⟩, ⟨by (with_reducible repeat (first | apply Kd.S_alloc | apply Kd.S_drewN | apply Kd.S_drew)); exact HO_64.out⟩, zk BK645, zk BK651, zk BK664, ⟨zy HB⟩⟩
                             case rest =>
                               (try clear hz548); (try clear hz592); (try clear hz598); (try clear hz604); (try clear hz605); (try clear hz645); (try clear hz651); (try clear hz657); (try clear hz664); (try clear hz670)
                               clear HC266
                               obtain ⟨kq, x581_265, rfl, HA, HJ265, HO_64, BK645, BK651, BK664, HB⟩ := hcut
                               cases kq with
                               | zero => exact absurd HA.out (by simp [laws_FnIslandsMeasured.j9])
                               | succ kj265 =>
                                 have H := HA.out; clear HA; simp only [laws_FnIslandsMeasured.j9] at H
                                 by_cases c270 : x581_265 = true
                                 · subst c270
                                   rw [if_pos rfl] at H
                                   obtain rfl := Option.some.inj H
                                   exact absurd HR_.out (by decide)
                                 · replace c270 := Bool.eq_false_iff.mpr c270
                                   subst c270; rw [if_neg (show ¬ (false = true) by decide)] at H; have HC271 := Aside0.mk H; clear H
                                   as_aux_lemma =>
                                    go_upto_region 52 with (fail)
                                    go_cut [607] from 1 to 0 (fun v607 wc => ∃ (kq : Nat) (x607_270 : Bool), v607 = .bool x607_270 ∧ Aside0 (laws_FnIslandsMeasured.j10 kq t630 t631 t632 t633 t644 t650 t658 t663 x607_270 t640 t641 t642 t643 t646 t647 t648 t649 t659 t660 t661 t662 = some r) ∧ Aside0 (kq ≤ kj265) ∧ Aside0 (Kd.S (Kd.slice 3 (Kd.int .i64)) 51 wc w.heap.size (fun _ => True) v634 t632) ∧ Aside0 (wc.heap[gb645]? = some (.cells #[.int .i64 t640, .int .i64 t641, .int .i64 t642, .int .i64 t643] 25 (0, 0))) ∧ Aside0 (wc.heap[gb651]? = some (.cells #[.int .i64 t646, .int .i64 t647, .int .i64 t648, .int .i64 t649] 25 (0, 0))) ∧ Aside0 (wc.heap[gb664]? = some (.cells #[.int .i64 t659, .int .i64 t660, .int .i64 t661, .int .i64 t662] 25 (0, 0))) ∧ Aside0 (Below w.heap.size w wc))
                                    case first =>
                                      have H := HC271.out; clear HC271
                                      by_cases c272 : t624 = true
                                      · subst c272
                                        rw [if_pos rfl] at H; replace H := Option.bind_eq_some_iff.mp H; obtain ⟨t673, A2730, H⟩ := H; (try dsimp only at H); have A273 := Aside0.mk A2730; clear A2730
                                        by_cases c274 : t673 = true
                                        · subst c274
                                          rw [if_pos rfl] at H; replace H := Option.bind_eq_some_iff.mp H; obtain ⟨t674, A2750, H⟩ := H; (try dsimp only at H); have A275 := Aside0.mk A2750; clear A2750
                                          by_cases c276 : t674 = true
                                          · subst c276
                                            rw [if_pos rfl] at H
                                            by_cases c277 : t620 < 1
                                            · rw [if_pos c277] at H
                                              have c277b0 : decide (t620 < 1) = true := decide_eq_true c277; clear c277
                                              (first | rw [c277b0] | (simp only [i64_w, i32_w]; rw [c277b0]) | skip)
                                              exact absurd (HR_.out.symm.trans (laws_FnIslandsMeasured.j10_true _ _ _ _ _ _ _ _ _ _ _ _ _ _ _ _ _ _ _ _ _ _ H)) (by decide)
                                            · rw [if_neg c277] at H
                                              have c277b0 : decide (t620 < 1) = false := decide_eq_false c277; clear c277
                                              (first | rw [c277b0] | (simp only [i64_w, i32_w]; rw [c277b0]) | skip)
                                              have H' := Aside0.mk H; clear H
                                              as_aux_lemma =>
                                               go_wp2_with (first | (go_at_call 16; (with_reducible refine (laws_yLow.calls kj265 t620 t621 true _ A273.out).mono ?_); rintro e w' ⟨rfl, ⟨nd, rfl⟩⟩) | (go_at_call 16; (with_reducible refine (laws_yLow.calls kj265 t622 t623 true _ A275.out).mono ?_); rintro e w' ⟨rfl, ⟨nd, rfl⟩⟩))
                                               go_meet
                                               case rel => exact ⟨_, (decide ((wrap64 (t622 * t621)) ≤ (wrap64 (t620 * t623)))), zu, H', ⟨by have := HJ13.out; have := HJ85.out; have := HJ145.out; have := HJ172.out; have := HJ265.out; first | omega | exact Nat.le_refl _⟩, ⟨by (with_reducible repeat (first | apply Kd.S_alloc | apply Kd.S_drewN | apply Kd.S_drew)); exact HO_64.out⟩, zk BK645, zk BK651, zk BK664, ⟨zy HB⟩⟩
                                          · replace c276 := Bool.eq_false_iff.mpr c276
                                            subst c276; rw [if_neg (show ¬ (false = true) by decide)] at H
                                            exact absurd (HR_.out.symm.trans (laws_FnIslandsMeasured.j10_true _ _ _ _ _ _ _ _ _ _ _ _ _ _ _ _ _ _ _ _ _ _ H)) (by decide)
                                        · replace c274 := Bool.eq_false_iff.mpr c274
                                          subst c274; rw [if_neg (show ¬ (false = true) by decide)] at H
                                          exact absurd (HR_.out.symm.trans (laws_FnIslandsMeasured.j10_true _ _ _ _ _ _ _ _ _ _ _ _ _ _ _ _ _ _ _ _ _ _ H)) (by decide)
                                      · replace c272 := Bool.eq_false_iff.mpr c272
                                        subst c272; rw [if_neg (show ¬ (false = true) by decide)] at H; have H' := Aside0.mk H; clear H
                                        as_aux_lemma =>
                                         go_wp2
                                         go_meet
                                         case rel => exact ⟨_, (false), zu, H', ⟨by have := HJ13.out; have := HJ85.out; have := HJ145.out; have := HJ172.out; have := HJ265.out; first | omega | exact Nat.le_refl _⟩, ⟨by (with_reducible repeat (first | apply Kd.S_alloc | apply Kd.S_drewN | apply Kd.S_drew)); exact HO_64.out⟩, zk BK645, zk BK651, zk BK664, ⟨zy HB⟩⟩
                                    case rest =>
                                      (try clear hz548); (try clear hz592); (try clear hz598); (try clear hz604); (try clear hz605); (try clear hz645); (try clear hz651); (try clear hz657); (try clear hz664); (try clear hz670)
                                      clear HC271
                                      obtain ⟨kq, x607_270, rfl, HA, HJ270, HO_64, BK645, BK651, BK664, HB⟩ := hcut
                                      cases kq with
                                      | zero => exact absurd HA.out (by simp [laws_FnIslandsMeasured.j10])
                                      | succ kj270 =>
                                        have H := HA.out; clear HA; simp only [laws_FnIslandsMeasured.j10] at H
                                        by_cases c278 : x607_270 = true
                                        · subst c278
                                          rw [if_pos rfl] at H
                                          obtain rfl := Option.some.inj H
                                          exact absurd HR_.out (by decide)
                                        · replace c278 := Bool.eq_false_iff.mpr c278
                                          subst c278; rw [if_neg (show ¬ (false = true) by decide)] at H; have HC279 := Aside0.mk H; clear H
                                          as_aux_lemma =>
                                           go_upto_if 608 with (fail)
                                           go_cut [] from 608 to 608 (fun wc => ∃ (kq : Nat), Aside0 (laws_FnIslandsMeasured.j12 kq t644 t650 t658 t663 t640 t641 t642 t643 t646 t647 t648 t649 t659 t660 t661 t662 = some r) ∧ Aside0 (kq ≤ kj270) ∧ Aside0 (wc.heap[gb645]? = some (.cells #[.int .i64 t640, .int .i64 t641, .int .i64 t642, .int .i64 t643] 25 (0, 0))) ∧ Aside0 (wc.heap[gb651]? = some (.cells #[.int .i64 t646, .int .i64 t647, .int .i64 t648, .int .i64 t649] 25 (0, 0))) ∧ Aside0 (wc.heap[gb664]? = some (.cells #[.int .i64 t659, .int .i64 t660, .int .i64 t661, .int .i64 t662] 25 (0, 0))) ∧ Aside0 (Below w.heap.size w wc))
                                           case first =>
                                             have H := HC279.out; clear HC279
                                             by_cases c280 : t633 = true
                                             · subst c280
                                               rw [if_pos rfl] at H; have H' := Aside0.mk H; clear H
                                               obtain ⟨Ao281, co281, eo281⟩ := Kd.S_slice HO_64.out
                                               subst eo281
                                               as_aux_lemma =>
                                                go_wp2
                                                go_loopg [611] kj270 (fun kq v611 w' => ∃ (x611_7 : Int), v611 = .int .i64 x611_7 ∧ Aside0 (laws_FnIslandsMeasured.l0 kq t630 t631 t644 t650 t658 t663 t632 (t632.length : Int) x611_7 t640 t641 t642 t643 t646 t647 t648 t649 t659 t660 t661 t662 = some r) ∧ Aside0 (kq ≤ kj270) ∧ Aside0 (Kd.S (Kd.slice 3 (Kd.int .i64)) 51 w' w.heap.size (fun _ => True) (.slice Ao281 t632.length co281) t632) ∧ Aside0 (w'.heap[gb645]? = some (.cells #[.int .i64 t640, .int .i64 t641, .int .i64 t642, .int .i64 t643] 25 (0, 0))) ∧ Aside0 (w'.heap[gb651]? = some (.cells #[.int .i64 t646, .int .i64 t647, .int .i64 t648, .int .i64 t649] 25 (0, 0))) ∧ Aside0 (w'.heap[gb664]? = some (.cells #[.int .i64 t659, .int .i64 t660, .int .i64 t661, .int .i64 t662] 25 (0, 0))) ∧ Aside0 (Below w.heap.size w w'))
                                                case atStart => exact ⟨(0), zu, H', ⟨Nat.le_refl _⟩, ⟨by (with_reducible repeat (first | apply Kd.S_alloc | apply Kd.S_drewN | apply Kd.S_drew)); exact HO_64.out⟩, zk BK645, zk BK651, zk BK664, ⟨zy HB⟩⟩
                                                case round =>
                                                  clear H'
                                                  obtain ⟨x611_7, rfl, HA, HK7, HO_609, BK645, BK651, BK664, HB⟩ := hrel
                                                  cases gk with
                                                  | zero => exact absurd HA.out (by simp [laws_FnIslandsMeasured.l0])
                                                  | succ k7 =>
                                                    have H := HA.out; clear HA; simp only [laws_FnIslandsMeasured.l0] at H
                                                    by_cases c282 : x611_7 < (t632.length : Int)
                                                    · rw [if_pos c282] at H
                                                      have c282b0 : decide (x611_7 < (t632.length : Int)) = true := decide_eq_true c282; clear c282
                                                      (first | rw [c282b0] | (simp only [i64_w, i32_w]; rw [c282b0]) | skip)
                                                      by_cases c283 : 0 ≤ x611_7
                                                      · rw [if_pos c283] at H
                                                        have c283b0 : decide (0 ≤ x611_7) = true := decide_eq_true c283; clear c283
                                                        by_cases c284 : x611_7 < (t632.length : Int)
                                                        · rw [if_pos c284] at H
                                                          have c284b0 : decide (x611_7 < (t632.length : Int)) = true := decide_eq_true c284; clear c284
                                                          by_cases c285 : ((rd_L2 t632 x611_7).length : Int) = 4
                                                          · rw [if_pos c285] at H
                                                            have c285b0 : (((rd_L2 t632 x611_7).length : Int) == 4) = true := beq_iff_eq.mpr c285
                                                            have c285b1 : (((rd_L2 t632 x611_7).length : Int) != 4) = false := bne_eq_false_iff_eq.mpr c285
                                                            clear c285
                                                            by_cases c286 : 0 < ((rd_L2 t632 x611_7).length : Int)
                                                            · rw [if_pos c286] at H
                                                              have c286b0 : decide (0 < ((rd_L2 t632 x611_7).length : Int)) = true := decide_eq_true c286
                                                              have c286b1 : decide (0 < (rd_L2 t632 x611_7).length) = true := decide_eq_true (by omega)
                                                              clear c286
                                                              by_cases c287 : 1 < ((rd_L2 t632 x611_7).length : Int)
                                                              · rw [if_pos c287] at H
                                                                have c287b0 : decide (1 < ((rd_L2 t632 x611_7).length : Int)) = true := decide_eq_true c287
                                                                have c287b1 : decide (1 < (rd_L2 t632 x611_7).length) = true := decide_eq_true (by omega)
                                                                clear c287; replace H := Option.bind_eq_some_iff.mp H; obtain ⟨⟨t678, t679, t680⟩, A2880, H⟩ := H; (try dsimp only at H); have A288 := Aside0.mk A2880; clear A2880
                                                                by_cases c289 : t680 = true
                                                                · subst c289
                                                                  rw [if_pos rfl] at H
                                                                  by_cases c290 : t679 = 1
                                                                  · rw [if_pos c290] at H
                                                                    have c290b0 : (t679 == 1) = true := beq_iff_eq.mpr c290
                                                                    have c290b1 : (t679 != 1) = false := bne_eq_false_iff_eq.mpr c290
                                                                    clear c290
                                                                    by_cases c291 : 2 < ((rd_L2 t632 x611_7).length : Int)
                                                                    · rw [if_pos c291] at H
                                                                      have c291b0 : decide (2 < ((rd_L2 t632 x611_7).length : Int)) = true := decide_eq_true c291
                                                                      have c291b1 : decide (2 < (rd_L2 t632 x611_7).length) = true := decide_eq_true (by omega)
                                                                      clear c291
                                                                      by_cases c292 : t678 = (rd (rd_L2 t632 x611_7) 2)
                                                                      · rw [if_pos c292] at H
                                                                        have c292b0 : (t678 == (rd (rd_L2 t632 x611_7) 2)) = true := beq_iff_eq.mpr c292
                                                                        have c292b1 : (t678 != (rd (rd_L2 t632 x611_7) 2)) = false := bne_eq_false_iff_eq.mpr c292
                                                                        clear c292; have H' := Aside0.mk H; clear H
                                                                        have p675 : 0 ≤ (x611_7 : Int) := of_decide_eq_true zO4_4
                                                                        have q675 : x611_7 < (t632.length : Int) := of_decide_eq_true zO4_4
                                                                        obtain ⟨ad675, A675_0, c675_0, e675, hx675_0, hl675_0, hi675_0⟩ := at_L2 (Kd.S_reads' HO_609.out).2.2 x611_7 p675 q675
                                                                        cases e675
                                                                        obtain ⟨ce675, hce675, hMe675, hcc675⟩ := Kd.S_get HO_609.out [] x611_7 p675 (by first | exact q675 | exact of_decide_eq_true zO4_4 | (have e_ := (Kd.S_reads' HO_609.out).1; omega))
                                                                        obtain ⟨ve675_0, rfl, ge675_0⟩ := hMe675
                                                                        have hv675_0 := hcc675 0 _ rfl
                                                                        rw [Nat.add_zero, show ((Kd.slice 3 (Kd.int .i64))).sz = 1 from rfl, Nat.mul_one] at hv675_0
                                                                        replace hv675_0 := Option.some.inj (hv675_0.symm.trans hx675_0)
                                                                        rw [hv675_0] at ge675_0
                                                                        have HL675_0 := Aside0.mk (show Kd.R (Kd.int .i64) 3 _ _ _ _ (rd_L2 t632 x611_7) from ge675_0)
                                                                        clear hv675_0 ge675_0; clear hcc675 hce675; have HR675_0 := Aside0.mk hi675_0; have HC675_0 := Aside0.mk hl675_0; clear hi675_0 hl675_0; replace p675 := eq_true p675; replace q675 := eq_true q675
                                                                        as_aux_lemma =>
                                                                         try go_wp2
                                                                         have n0_ := Aside0.mk (Kd.S_drew HO_609.out)
                                                                         have n5_ := Aside0.mk (Kd.C_drew HR675_0.out)
                                                                         replace HL675_0 := Aside0.mk (Kd.R_drew HL675_0.out); replace BK645 := Aside0.mk (blk_drew BK645.out); replace BK651 := Aside0.mk (blk_drew BK651.out); replace BK664 := Aside0.mk (blk_drew BK664.out); replace HB := Aside0.mk (below_drew1 HB.out); clear HO_609; have HO_609 := n0_; clear n0_; clear HR675_0; have HR675_0 := n5_; clear n5_
                                                                         have p676 : 0 ≤ (0 : Int) := (by omega)
                                                                         have q676 : 0 < ((rd_L2 t632 x611_7).length : Int) := of_decide_eq_true zO4_4
                                                                         obtain ⟨ad676, e676, hx676_0⟩ := Kd.at_int zO4_0 0 p676 q676
                                                                         cases e676
                                                                         have qi676 : (0 < (rd_L2 t632 x611_7).length) = True := eq_true (by omega)
                                                                         (try rw [show ((0 : Int)).toNat = 0 from rfl] at hx676_0)
                                                                         (try rw [Addr.add_zero'] at hx676_0)
                                                                         replace p676 := eq_true p676; replace q676 := eq_true q676
                                                                         have p677 : 0 ≤ (1 : Int) := (by omega)
                                                                         have q677 : 1 < ((rd_L2 t632 x611_7).length : Int) := of_decide_eq_true zO4_4
                                                                         obtain ⟨ad677, e677, hx677_0⟩ := Kd.at_int zO4_0 1 p677 q677
                                                                         obtain rfl : ad676 = ad677 := (by injection e677)
                                                                         (try simp only [show (1 : Int).toNat = 1 from rfl, Nat.reduceMul, Nat.reduceEqDiff, Go.Addr.add, ↓reduceIte] at hx677_0)
                                                                         have qi677 : (1 < (rd_L2 t632 x611_7).length) = True := eq_true (by omega)
                                                                         (try rw [show ((1 : Int)).toNat = 1 from rfl] at hx677_0)
                                                                         replace p677 := eq_true p677; replace q677 := eq_true q677
                                                                         refine start_ (n := 17) (S := fun w' => w'.cell? ad676 = some (.int .i64 (rd (rd_L2 t632 x611_7) 0)) ∧ w'.cell? ⟨ad676.block, ad676.off + 1, none⟩ = some (.int .i64 (rd (rd_L2 t632 x611_7) 1))) (ds := []) #[false, false, false, false, false, false, false, false, false, false, false, false, false, false, false, false, false] (by kernel_rfl) rfl rfl ⟨hx676_0, hx677_0⟩ (fun hHeld => ?_); refine with_tabW laws_FnIslandsMeasured.tab60 laws_FnIslandsMeasured.bits60 (fun HT_ HW_ => ?_)
                                                                         generalize wr.drew = w293 at HO_609 HL675_0 BK645 BK651 BK664 HR675_0 HB hx676_0 hx677_0 hHeld ⊢
                                                                         refine zA 0 619 HT_ ?_
                                                                         refine zA 1 620 HT_ ?_
                                                                         refine zA 2 621 HT_ ?_
                                                                         refine zA 3 622 HT_ ?_
                                                                         refine zA 5 624 HT_ ?_
                                                                         refine zA 6 625 HT_ ?_
                                                                         refine zT 4 623 HT_ HW_ hHeld ?_
                                                                         refine zT 7 626 HT_ HW_ hHeld ?_
                                                                         refine zA 8 627 HT_ ?_
                                                                         refine zO 9 (some 628) HT_ (fun K hK => ?_)
                                                                         refine goes_ Tryz.func6 (by kernel_rfl) rfl #[.agg #[.int .i64 t630, .int .i64 t631, .int .i64 (rd (rd_L2 t632 x611_7) 0), .int .i64 (rd (rd_L2 t632 x611_7) 1)]] (by rfl) rfl rfl zO4_1 ?_
                                                                         with_reducible refine (impl_IslandHeight.calls k7 t630 t631 (rd (rd_L2 t632 x611_7) 0) (rd (rd_L2 t632 x611_7) 1) t678 t679 true _ A288.out).mono ?_
                                                                         rintro e w294 ⟨rfl, hb⟩
                                                                         have HS0_ := (hb.cell (World.block_lt_of_cell? _ _ (hHeld.1))).trans (hHeld.1)
                                                                         have HS1_ := (hb.cell (World.block_lt_of_cell? _ _ (hHeld.2))).trans (hHeld.2)
                                                                         refine ⟨_, rfl, ?_⟩
                                                                         have n0_ := Aside0.mk (Kd.S_below (by (with_reducible repeat (first | apply Kd.S_alloc | apply Kd.S_drewN | apply Kd.S_drew)); exact HO_609.out) hb)
                                                                         have n5_ := Aside0.mk (Kd.C_below zO4_0 hb)
                                                                         replace HL675_0 := zo HL675_0 hb; replace BK645 := zb BK645 hb; replace BK651 := zb BK651 hb; replace BK664 := zb BK664 hb; replace HB := zh HB hb; clear HO_609; have HO_609 := n0_; clear n0_; clear HR675_0; have HR675_0 := n5_; clear n5_
                                                                         (try clear hb)
                                                                         (try clear hb2)
                                                                         (try clear hk)
                                                                         (try clear hi)
                                                                         refine hK.out _ _ ⟨HS0_, HS1_⟩ (fun hHeld => ?_)
                                                                         clear hK K
                                                                         refine zN 628 ?_
                                                                         refine zA 10 618 HT_ ?_
                                                                         refine zA 11 629 HT_ ?_
                                                                         refine zA 12 630 HT_ ?_
                                                                         refine zA 13 631 HT_ ?_
                                                                         refine zA 14 81 HT_ ?_
                                                                         refine zA 15 82 HT_ ?_
                                                                         refine zA 16 83 HT_ ?_
                                                                         refine done_ (done_of HT_.out (by kernel_rfl)) ?_
                                                                         have p681 : 0 ≤ (2 : Int) := (by omega)
                                                                         have q681 : 2 < ((rd_L2 t632 x611_7).length : Int) := of_decide_eq_true zO4_4
                                                                         obtain ⟨ad681, e681, hx681_0⟩ := Kd.at_int zO4_0 2 p681 q681
                                                                         obtain rfl : ad676 = ad681 := (by injection e681)
                                                                         (try simp only [show (2 : Int).toNat = 2 from rfl, Nat.reduceMul, Nat.reduceEqDiff, Go.Addr.add, ↓reduceIte] at hx681_0)
                                                                         have qi681 : (2 < (rd_L2 t632 x611_7).length) = True := eq_true (by omega)
                                                                         (try rw [show ((2 : Int)).toNat = 2 from rfl] at hx681_0)
                                                                         replace p681 := eq_true p681; replace q681 := eq_true q681
                                                                         try go_wp2
                                                                         go_roundg k7
                                                                         case measure => have := HJ13.out; have := HJ85.out; have := HJ145.out; have := HJ172.out; have := HJ265.out; have := HJ270.out; have := HK7.out; omega
                                                                         case rel => exact ⟨(wrap64 (x611_7 + 1)), zu, H', ⟨by have := HJ13.out; have := HJ85.out; have := HJ145.out; have := HJ172.out; have := HJ265.out; have := HJ270.out; have := HK7.out; omega⟩, ⟨by (with_reducible repeat (first | apply Kd.S_alloc | apply Kd.S_drewN | apply Kd.S_drew)); exact HO_609.out⟩, zk BK645, zk BK651, zk BK664, ⟨zy HB⟩⟩
                                                                      · rw [if_neg c292] at H
                                                                        have c292b0 : (t678 == (rd (rd_L2 t632 x611_7) 2)) = false := beq_eq_false_iff_ne.mpr c292
                                                                        have c292b1 : (t678 != (rd (rd_L2 t632 x611_7) 2)) = true := bne_iff_ne.mpr c292
                                                                        obtain rfl := Option.some.inj H
                                                                        exact absurd HR_.out (by decide)
                                                                    · rw [if_neg c291] at H
                                                                      exact absurd H (by simp)
                                                                  · rw [if_neg c290] at H
                                                                    have c290b0 : (t679 == 1) = false := beq_eq_false_iff_ne.mpr c290
                                                                    have c290b1 : (t679 != 1) = true := bne_iff_ne.mpr c290
                                                                    obtain rfl := Option.some.inj H
                                                                    exact absurd HR_.out (by decide)
                                                                · replace c289 := Bool.eq_false_iff.mpr c289
                                                                  subst c289; rw [if_neg (show ¬ (false = true) by decide)] at H
                                                                  obtain rfl := Option.some.inj H
                                                                  exact absurd HR_.out (by decide)
                                                              · rw [if_neg c287] at H
                                                                exact absurd H (by simp)
                                                            · rw [if_neg c286] at H
                                                              exact absurd H (by simp)
                                                          · rw [if_neg c285] at H
                                                            have c285b0 : (((rd_L2 t632 x611_7).length : Int) == 4) = false := beq_eq_false_iff_ne.mpr c285
                                                            have c285b1 : (((rd_L2 t632 x611_7).length : Int) != 4) = true := bne_iff_ne.mpr c285
                                                            obtain rfl := Option.some.inj H
                                                            exact absurd HR_.out (by decide)
                                                        · rw [if_neg c284] at H
                                                          exact absurd H (by simp)
                                                      · rw [if_neg c283] at H
                                                        exact absurd H (by simp)
                                                    · rw [if_neg c282] at H
                                                      have c282b0 : decide (x611_7 < (t632.length : Int)) = false := decide_eq_false c282; clear c282
                                                      (first | rw [c282b0] | (simp only [i64_w, i32_w]; rw [c282b0]) | skip)
                                                      have H' := Aside0.mk H; clear H
                                                      as_aux_lemma =>
                                                       go_wp2
                                                       go_meet
                                                       case rel => exact ⟨_, H', ⟨by have := HJ13.out; have := HJ85.out; have := HJ145.out; have := HJ172.out; have := HJ265.out; have := HJ270.out; have := HK7.out; first | omega | exact Nat.le_refl _⟩, zk BK645, zk BK651, zk BK664, ⟨zy HB⟩⟩
                                             · replace c280 := Bool.eq_false_iff.mpr c280
                                               subst c280; rw [if_neg (show ¬ (false = true) by decide)] at H; have H' := Aside0.mk H; clear H
                                               as_aux_lemma =>
                                                go_wp2
                                                go_meet
                                                case rel => exact ⟨_, H', ⟨by have := HJ13.out; have := HJ85.out; have := HJ145.out; have := HJ172.out; have := HJ265.out; have := HJ270.out; first | omega | exact Nat.le_refl _⟩, zk BK645, zk BK651, zk BK664, ⟨zy HB⟩⟩
                                           case rest =>
                                             (try clear hz548); (try clear hz592); (try clear hz598); (try clear hz604); (try clear hz605); (try clear hz645); (try clear hz651); (try clear hz657); (try clear hz664); (try clear hz670)
                                             clear HC279
                                             obtain ⟨kq, HA, HJ278, BK645, BK651, BK664, HB⟩ := hcut
                                             cases kq with
                                             | zero => exact absurd HA.out (by simp [laws_FnIslandsMeasured.j12])
                                             | succ kj278 =>
                                               have H := HA.out; clear HA; simp only [laws_FnIslandsMeasured.j12] at H
                                               by_cases c295 : t650 = true
                                               · subst c295
                                                 rw [if_pos rfl] at H; replace H := Option.bind_eq_some_iff.mp H; obtain ⟨⟨t682, t683, t684⟩, A2960, H⟩ := H; (try dsimp only at H); have A296 := Aside0.mk A2960; clear A2960; replace H := Option.bind_eq_some_iff.mp H; obtain ⟨⟨t685, t686, t687⟩, A2970, H⟩ := H; (try dsimp only at H); have A297 := Aside0.mk A2970; clear A2970; have HC298 := Aside0.mk H; clear H
                                                 replace hNB645_651 := NB645_651.out
                                                 replace hNB651_645 := NB651_645.out
                                                 replace hNB645_664 := NB645_664.out
                                                 replace hNB664_645 := NB664_645.out
                                                 replace hz645 := zc4 BK645
                                                 as_aux_lemma =>
                                                  go_upto_region 67 with (first | ((with_reducible refine gate_callee (f := 6) rfl ?_); refine zG (some 649) Tryz.func6 #[.agg #[.int .i64 t640, .int .i64 t641, .int .i64 t642, .int .i64 t643]] ?_; (with_reducible refine (impl_IslandHeight.calls kj278 t640 t641 t642 t643 t682 t683 t684 _ A296.out).mono ?_); rintro e w302 ⟨rfl, hb⟩; refine ⟨_, rfl, ?_⟩; replace BK645 := zb BK645 hb; replace BK651 := zb BK651 hb; replace BK664 := zb BK664 hb; replace HB := zh HB hb; clear hb; replace hNB651_664 := NB651_664.out; replace hNB664_651 := NB664_651.out; replace hz651 := zc4 BK651) | ((with_reducible refine gate_callee (f := 6) rfl ?_); refine zG (some 655) Tryz.func6 #[.agg #[.int .i64 t646, .int .i64 t647, .int .i64 t648, .int .i64 t649]] ?_; (with_reducible refine (impl_IslandHeight.calls kj278 t646 t647 t648 t649 t685 t686 t687 _ A297.out).mono ?_); rintro e w305 ⟨rfl, hb⟩; refine ⟨_, rfl, ?_⟩; replace BK645 := zb BK645 hb; replace BK651 := zb BK651 hb; replace BK664 := zb BK664 hb; replace HB := zh HB hb; clear hb))
                                                  (try simp only [Act.put, List.setIfInBounds_toArray, List.set_cons_zero, List.set_cons_succ])
                                                  go_cut [675] from 646 to 658 (fun v675 wc => ∃ (kq : Nat) (x675_297 : Bool), v675 = .bool x675_297 ∧ Aside0 (laws_FnIslandsMeasured.j13 kq t658 t663 x675_297 t659 t660 t661 t662 = some r) ∧ Aside0 (kq ≤ kj278) ∧ Aside0 (wc.heap[gb664]? = some (.cells #[.int .i64 t659, .int .i64 t660, .int .i64 t661, .int .i64 t662] 25 (0, 0))) ∧ Aside0 (Below w.heap.size w wc))
                                                  case first =>
                                                    have H := HC298.out; clear HC298
                                                    by_cases c306 : t684 = true
                                                    · subst c306
                                                      rw [if_pos rfl] at H
                                                      by_cases c307 : t687 = true
                                                      · subst c307
                                                        rw [if_pos rfl] at H; have H' := Aside0.mk H; clear H
                                                        as_aux_lemma =>
                                                         go_wp2
                                                         go_meet
                                                         case rel => exact ⟨_, (((wrap64 (t685 * t683)) != (wrap64 ((wrap64 (t644 * t682)) * t686)))), zu, H', ⟨by have := HJ13.out; have := HJ85.out; have := HJ145.out; have := HJ172.out; have := HJ265.out; have := HJ270.out; have := HJ278.out; first | omega | exact Nat.le_refl _⟩, zk BK664, ⟨zy HB⟩⟩
                                                      · replace c307 := Bool.eq_false_iff.mpr c307
                                                        subst c307; rw [if_neg (show ¬ (false = true) by decide)] at H
                                                        exact absurd (HR_.out.symm.trans (laws_FnIslandsMeasured.j13_true _ _ _ _ _ _ _ _ H)) (by decide)
                                                    · replace c306 := Bool.eq_false_iff.mpr c306
                                                      subst c306; rw [if_neg (show ¬ (false = true) by decide)] at H
                                                      exact absurd (HR_.out.symm.trans (laws_FnIslandsMeasured.j13_true _ _ _ _ _ _ _ _ H)) (by decide)
                                                  case rest =>
                                                    (try clear hz548); (try clear hz592); (try clear hz598); (try clear hz604); (try clear hz605); (try clear hz645); (try clear hz651); (try clear hz657); (try clear hz664); (try clear hz670)
                                                    clear HC298
                                                    obtain ⟨kq, x675_297, rfl, HA, HJ297, BK664, HB⟩ := hcut
                                                    cases kq with
                                                    | zero => exact absurd HA.out (by simp [laws_FnIslandsMeasured.j13])
                                                    | succ kj297 =>
                                                      have H := HA.out; clear HA; simp only [laws_FnIslandsMeasured.j13] at H
                                                      by_cases c308 : x675_297 = true
                                                      · subst c308
                                                        rw [if_pos rfl] at H
                                                        obtain rfl := Option.some.inj H
                                                        exact absurd HR_.out (by decide)
                                                      · replace c308 := Bool.eq_false_iff.mpr c308
                                                        subst c308; rw [if_neg (show ¬ (false = true) by decide)] at H
                                                        by_cases c309 : t663 = true
                                                        · subst c309
                                                          rw [if_pos rfl] at H; replace H := Option.bind_eq_some_iff.mp H; obtain ⟨⟨t688, t689⟩, A3100, H⟩ := H
                                                          replace H : (if t689 = true then (some (t688.toList == t658.toList)) else (some false)) = some r := H
                                                          have A310 := Aside0.mk A3100; clear A3100
                                                          by_cases c311 : t689 = true
                                                          · subst c311
                                                            rw [if_pos rfl] at H
                                                            obtain rfl := Option.some.inj H
                                                            replace hz664 := zc4 BK664
                                                            as_aux_lemma =>
                                                             go_wp2_with (first | ((with_reducible refine gate_callee (f := 12) rfl ?_); refine zG (some 679) Tryz.func12 #[.agg #[.int .i64 t659, .int .i64 t660, .int .i64 t661, .int .i64 t662]] ?_; (with_reducible refine (impl_IslandText.calls t659 t660 t661 t662 t688 true _ (LaidP.below HL_.out.p (zy HB)) A310.out).mono ?_); rintro e w313 ⟨rfl, hb⟩; refine ⟨_, rfl, ?_⟩; replace BK664 := zb BK664 hb; replace HB := zh HB hb; clear hb))
                                                             go_ret
                                                             exact ⟨zt, zy HB⟩
                                                          · replace c311 := Bool.eq_false_iff.mpr c311
                                                            subst c311; rw [if_neg (show ¬ (false = true) by decide)] at H
                                                            obtain rfl := Option.some.inj H
                                                            exact absurd HR_.out (by decide)
                                                        · replace c309 := Bool.eq_false_iff.mpr c309
                                                          subst c309; rw [if_neg (show ¬ (false = true) by decide)] at H
                                                          obtain rfl := Option.some.inj H
                                                          as_aux_lemma =>
                                                           go_wp2
                                                           go_ret
                                                           exact ⟨zt, zy HB⟩
                                               · replace c295 := Bool.eq_false_iff.mpr c295
                                                 subst c295; rw [if_neg (show ¬ (false = true) by decide)] at H
                                                 by_cases c314 : t663 = true
                                                 · subst c314
                                                   rw [if_pos rfl] at H; replace H := Option.bind_eq_some_iff.mp H; obtain ⟨⟨t690, t691⟩, A3150, H⟩ := H
                                                   replace H : (if t691 = true then (some (t690.toList == t658.toList)) else (some false)) = some r := H
                                                   have A315 := Aside0.mk A3150; clear A3150
                                                   by_cases c316 : t691 = true
                                                   · subst c316
                                                     rw [if_pos rfl] at H
                                                     obtain rfl := Option.some.inj H
                                                     replace hNB664_645 := NB664_645.out
                                                     replace hNB645_664 := NB645_664.out
                                                     replace hNB664_651 := NB664_651.out
                                                     replace hNB651_664 := NB651_664.out
                                                     replace hz664 := zc4 BK664
                                                     as_aux_lemma =>
                                                      go_wp2_with (first | ((with_reducible refine gate_callee (f := 12) rfl ?_); refine zG (some 679) Tryz.func12 #[.agg #[.int .i64 t659, .int .i64 t660, .int .i64 t661, .int .i64 t662]] ?_; (with_reducible refine (impl_IslandText.calls t659 t660 t661 t662 t690 true _ (LaidP.below HL_.out.p (zy HB)) A315.out).mono ?_); rintro e w320 ⟨rfl, hb⟩; refine ⟨_, rfl, ?_⟩; replace BK645 := zb BK645 hb; replace BK651 := zb BK651 hb; replace BK664 := zb BK664 hb; replace HB := zh HB hb; clear hb))
                                                      go_ret
                                                      exact ⟨zt, zy HB⟩
                                                   · replace c316 := Bool.eq_false_iff.mpr c316
                                                     subst c316; rw [if_neg (show ¬ (false = true) by decide)] at H
                                                     obtain rfl := Option.some.inj H
                                                     exact absurd HR_.out (by decide)
                                                 · replace c314 := Bool.eq_false_iff.mpr c314
                                                   subst c314; rw [if_neg (show ¬ (false = true) by decide)] at H
                                                   obtain rfl := Option.some.inj H
                                                   as_aux_lemma =>
                                                    go_wp2
                                                    go_ret
                                                    exact ⟨zt, zy HB⟩

/-- THE ONE PURE STATEMENT of laws_FnIslandsMeasured: yours. -/
def laws_FnIslandsMeasured.Pure : Prop := ∀ (l0 : List Int) (l1 : List Int), l0.length ≤ maxLen → l0.length * 1 ≤ 140737488351232 → (∀ x ∈ l0, (Lit.int .u8 x).wf = true) → l1.length ≤ maxLen → l1.length * 1 ≤ 140737488351232 → (∀ x ∈ l1, (Lit.int .u8 x).wf = true) → ∃ k, laws_FnIslandsMeasured.f k l0 l1 = some true
theorem laws_FnIslandsMeasured.walk (P : laws_FnIslandsMeasured.Pure) (a0 : Option Addr) (len0 cap0 : Nat) (z0 : List Int) (a1 : Option Addr) (len1 cap1 : Nat) (z1 : List Int) (w : World) (hL_ : LaidQ w) (w0 : (a0 = none ∧ len0 = 0 ∧ cap0 = 0 ∧ z0 = []) ∨ ∃ x, a0 = some x ∧ len0 ≤ cap0 ∧ cap0 ≤ maxLen ∧ z0.length = cap0 ∧ (∀ i, i < z0.length → w.cell? (x.add i) = some (.int .u8 (z0.getD i 0))) ∧ ∀ n ∈ z0, (Lit.int .u8 n).wf = true) (y0 : len0 * 1 ≤ 140737488351232) (w1 : (a1 = none ∧ len1 = 0 ∧ cap1 = 0 ∧ z1 = []) ∨ ∃ x, a1 = some x ∧ len1 ≤ cap1 ∧ cap1 ≤ maxLen ∧ z1.length = cap1 ∧ (∀ i, i < z1.length → w.cell? (x.add i) = some (.int .u8 (z1.getD i 0))) ∧ ∀ n ∈ z1, (Lit.int .u8 n).wf = true) (y1 : len1 * 1 ≤ 140737488351232) :
    Calls Tryz.prog 3 #[.slice a0 len0 cap0, .slice a1 len1 cap1] w fun e w' => e = .returned (.bool true) ∧ Below w.heap.size w w' := by
  obtain ⟨l0, rfl, hr0, hm0, hw0, hc0⟩ := ReadsInt.ofRowC w0
  obtain ⟨l1, rfl, hr1, hm1, hw1, hc1⟩ := ReadsInt.ofRowC w1
  obtain ⟨k, h⟩ := P l0 l1 hm0 y0 hw0 hm1 y1 hw1
  refine (laws_FnIslandsMeasured.calls k _ _ l0 _ _ l1 true w hL_ (Kd.C_of_reads (d := (0 : Int)) (h1 := fun _ => rfl) hr0) hc0 (Kd.C_of_reads (d := (0 : Int)) (h1 := fun _ => rfl) hr1) hc1 h rfl).mono ?_
  rintro e w' ⟨rfl, hd⟩
  exact ⟨rfl, hd⟩

end Go.Proofs.YtakodhlaphloeaaGreatDoor.P
