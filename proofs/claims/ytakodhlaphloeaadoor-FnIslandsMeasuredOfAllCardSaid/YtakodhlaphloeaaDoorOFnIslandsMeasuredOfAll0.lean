/- The law FnIslandsMeasuredOfAll is proved: a call of it returns true and leaves its arguments as they were; and what this needs. Every input that the given rows speak of; nothing else is asked. -/
import Derived.Shelf.Strconv.Atoi
import Derived.Shelf.Strconv.Itoa0
import Derived.Shelf.Strconv.Itoa1
import Derived.Shelf.LaysM
import Derived.Shelf.Strconv.Itoa2
import Derived.Shelf.Strconv.Itoa3
import Derived.Shelf.Strconv.AtoiErrFast
import Derived.Shelf.Strconv.ParseIntEmpty
import Derived.Shelf.Strconv.AtoiFail
import Derived.Shelf.Strconv.Clone
import Derived.Shelf.Strconv.SyntaxError
import Derived.Shelf.LaysC
import Derived.Shelf.Strconv.ToError
import Derived.Shelf.Strconv.AtoiErr
import Derived.Shelf.Strconv.ErrVar
import Derived.Shelf.Strconv.Lower
import Derived.Shelf.Strconv.ParseUint10
import Derived.Shelf.Strconv.ParseUint10Empty
import Derived.Shelf.Strconv.ParseUint10Any
import Derived.Shelf.Strconv.ParseInt10
import Derived.Shelf.Strconv.AtoiLong
import Derived.Shelf.Strconv.AtoiInnerAll
import Derived.Shelf.Strconv.RangeError
import Derived.Shelf.Strconv.ToErrorRange
import Derived.Shelf.Strconv.AtoiAll
import Derived.Shelf.Strconv.ErrVarAll
import Derived.Shelf.Strconv.ParseUintEmpty
import Derived.Shelf.Strconv.ParseUint10b64
import Derived.Shelf.Strconv.ParseUint10b32
import Derived.Shelf.Strconv.ParseUint10b16
import Derived.Shelf.Strconv.ParseUint10b8
import Derived.Shelf.Strconv.ParseUint10At
import Derived.Shelf.Strconv.ParseInt10At64
import Derived.Shelf.Strconv.ParseInt10At32
import Derived.Shelf.Strconv.ParseInt10At16
import Derived.Shelf.Strconv.ParseInt10At8
import Derived.Shelf.Strconv.ParseInt10All
import Derived.Shelf.Strings.Search1
import Derived.Shelf.Strings.Search2
import Derived.Shelf.Strings.Cut
import Derived.Shelf.Strings.Shaped
import Derived.Test.YtakodhlaphloeaaDoorProg
import Derived.Below
import Derived.Deep.Draws
import Derived.Deep.AppendLies
import Derived.Maps.AppendAt
import Derived.OwnWalk
import Derived.Laws.BytesArg
import Derived.Laws.MakeOwn
import Derived.Laws.OwnMore
import Derived.Deep.OwnRows
import Derived.Tactics
import Derived.Lib.ConvBytes
import Derived.Laws.Slices
import Derived.WalkKit
import Derived.KernelRfl
import Derived.RowKit3
import Derived.Deep.LoopGhost
import Derived.Deep.QuietTactic
import Derived.BigQuiet
import Derived.WideLaws
import Derived.Deep.DeepCutAuto
import Derived.Deep.CutBlock
import Derived.Deep.RegionHeld3
import Derived.Laws.Rows
import Derived.Lib.AppendStr
import Derived.ArgAppend
import Derived.Laws.IdiomCopy
import Derived.OrdersHeld
import Derived.Laws.BitsLemmas
import Derived.RowKit
import Derived.Shelf.Abstract
import Derived.WalkSpells
import Derived.Lib.SliceRun
import Derived.Test.YtakodhlaphloeaaDoorOW
namespace Go.Proofs.YtakodhlaphloeaaDoor.P
open Go.RowKit Go.Proofs.YtakodhlaphloeaaDoorW.PrintWords Go.Proofs.YtakodhlaphloeaaDoorW.PrintLast Go.Proofs.YtakodhlaphloeaaDoorW.PrintMore
set_option linter.unusedVariables false
theorem zO0_0 {p : Prop} (h : p := by (try simp only [List.map_toArray, List.map_cons, List.map_nil]); first | done | rfl | (simp only [List.length_drop, List.length_take]; rfl)) : p := h
theorem zO0_1 {p : Prop} (h : p := by repeat (first | (with_reducible first | exact HB.out | apply below_alloc | apply pw_below_drewN | apply below_drew1) | exact HB.out)) : p := h
theorem zO0_2 {p : Prop} (h : p := by simp only [putAll, Act.put, List.setIfInBounds_toArray, List.set_cons_zero, List.set_cons_succ]) : p := h
theorem zO0_3 {p : Prop} (h : p := by first | (with_reducible assumption) | assumption) : p := h
theorem zO0_4 {p : Prop} (h : p := by go_simp; rfl) : p := h
theorem zO0_5 {p : Prop} (h : p := by assumption) : p := h
theorem zO0_6 {p : Prop} (h : p := by simp) : p := h
end Go.Proofs.YtakodhlaphloeaaDoor.P
namespace Go.Proofs
open Go.Shelf
def Tryd.laysM171_ren : Go.Shelf.Ren := ⟨fun | 171 => 44 | 243 => 56 | 246 => 61 | 283 => 71 | 284 => 72 | 285 => 73 | 286 => 74 | 129 => 81 | 317 => 80 | 318 => 82 | 319 => 83 | 320 => 84 | 337 => 87 | 338 => 88 | n => n, fun | 3 => 3 | 9 => 9 | 2 => 2 | 4 => 4 | 171 => 82 | 0 => 0 | 53 => 83 | 37 => 68 | 5 => 5 | 173 => 86 | 212 => 98 | 51 => 88 | 20 => 20 | 213 => 99 | 46 => 75 | 232 => 108 | 233 => 109 | n => n, fun | 17 => 3 | 18 => 4 | 19 => 5 | n => n⟩
theorem Tryd.laysM171 : Go.Proofs.LaysM.n171 Tryd.prog Tryd.laysM171_ren := {
 mixed := by kernel_rfl
 f129 := Tryd.func81.trans (congrArg some (by kernel_rfl))
 f171 := Tryd.func44.trans (congrArg some (by kernel_rfl))
 f243 := Tryd.func56.trans (congrArg some (by kernel_rfl))
 f246 := Tryd.func61.trans (congrArg some (by kernel_rfl))
 f283 := Tryd.func71.trans (congrArg some (by kernel_rfl))
 f284 := Tryd.func72.trans (congrArg some (by kernel_rfl))
 f285 := Tryd.func73.trans (congrArg some (by kernel_rfl))
 f286 := Tryd.func74.trans (congrArg some (by kernel_rfl))
 f317 := Tryd.func80.trans (congrArg some (by kernel_rfl))
 f318 := Tryd.func82.trans (congrArg some (by kernel_rfl))
 f319 := Tryd.func83.trans (congrArg some (by kernel_rfl))
 f320 := Tryd.func84.trans (congrArg some (by kernel_rfl))
 f337 := Tryd.func87.trans (congrArg some (by kernel_rfl))
 f338 := Tryd.func88.trans (congrArg some (by kernel_rfl))
 t0 := Tryd.underlying0
 a0 := Tryd.isAgg0
 z0 := Tryd.sizeOf0
 v0 := Tryd.zeroValue0
 t2 := Tryd.underlying2
 a2 := Tryd.isAgg2
 z2 := Tryd.sizeOf2
 v2 := Tryd.zeroValue2
 t3 := Tryd.underlying3
 a3 := Tryd.isAgg3
 z3 := Tryd.sizeOf3
 v3 := Tryd.zeroValue3
 t4 := Tryd.underlying4
 a4 := Tryd.isAgg4
 z4 := Tryd.sizeOf4
 v4 := Tryd.zeroValue4
 t5 := Tryd.underlying5
 a5 := Tryd.isAgg5
 z5 := Tryd.sizeOf5
 v5 := Tryd.zeroValue5
 t9 := Tryd.underlying9
 a9 := Tryd.isAgg9
 z9 := Tryd.sizeOf9
 v9 := Tryd.zeroValue9
 t20 := Tryd.underlying20
 a20 := Tryd.isAgg20
 z20 := Tryd.sizeOf20
 v20 := Tryd.zeroValue20
 t37 := Tryd.underlying68
 a37 := Tryd.isAgg68
 z37 := Tryd.sizeOf68
 v37 := Tryd.zeroValue68
 t46 := Tryd.underlying75
 a46 := Tryd.isAgg75
 z46 := Tryd.sizeOf75
 v46 := Tryd.zeroValue75
 t51 := Tryd.underlying88
 a51 := Tryd.isAgg88
 z51 := Tryd.sizeOf88
 v51 := Tryd.zeroValue88
 t53 := Tryd.underlying83
 a53 := Tryd.isAgg83
 z53 := Tryd.sizeOf83
 v53 := Tryd.zeroValue83
 t171 := Tryd.underlying82
 a171 := Tryd.isAgg82
 z171 := Tryd.sizeOf82
 v171 := Tryd.zeroValue82
 t173 := Tryd.underlying86
 a173 := Tryd.isAgg86
 z173 := Tryd.sizeOf86
 v173 := Tryd.zeroValue86
 t212 := Tryd.underlying98
 a212 := Tryd.isAgg98
 z212 := Tryd.sizeOf98
 v212 := Tryd.zeroValue98
 t213 := Tryd.underlying99
 a213 := Tryd.isAgg99
 z213 := Tryd.sizeOf99
 t232 := Tryd.underlying108
 a232 := Tryd.isAgg108
 z232 := Tryd.sizeOf108
 v232 := Tryd.zeroValue108
 t233 := Tryd.underlying109
 a233 := Tryd.isAgg109
 z233 := Tryd.sizeOf109
 v233 := Tryd.zeroValue109
 g17 := by kernel_rfl
 g18 := by kernel_rfl
 g19 := by kernel_rfl
 i0 := by kernel_rfl
 i2 := by kernel_rfl
 i3 := by kernel_rfl
 i4 := by kernel_rfl
 i5 := by kernel_rfl
 i9 := by kernel_rfl
 i20 := by kernel_rfl
 i37 := by kernel_rfl
 i46 := by kernel_rfl
 i51 := by kernel_rfl
 i53 := by kernel_rfl
 i171 := by kernel_rfl
 i173 := by kernel_rfl
 i212 := by kernel_rfl
 i232 := by kernel_rfl
 i233 := by kernel_rfl
 m17 := by kernel_rfl
 m18 := by kernel_rfl
 m19 := by kernel_rfl }
open Go.RowKit Go.Sort Go.Lib in
/-- strconv.Itoa: "Itoa is equivalent to FormatInt(int64(i), 10).": i's DECIMAL NUMERAL ('Lib.itoa': a '-' where i is negative, then the digits), FOR EVERY int. The world behind the call: the world before it, new blocks behind the heap (the library's 'var a [24]byte'), draws. (LAID: no walk: one application.) -/
theorem Tryd.strconv_Itoa (n : Int) (h0 : -9223372036854775808 ≤ n) (h1 : n ≤ 9223372036854775807) (w : World) (htab : Lib.TabIs Tryd.prog w "internal/strconv.uint64pow10" .u64 Lib.pow10Tab) :
  Calls Tryd.prog 44 #[.int .i64 n] w fun e w' => e = .returned (.string ⟨(Lib.itoa n).toArray⟩) ∧ ∃ k os, w' = grow (w.drewN k) os := Any.strconv_Itoa Tryd.laysM171 n h0 h1 w htab
def Tryd.laysC172_ren : Go.Shelf.Ren := ⟨fun | 172 => 51 | 244 => 59 | 245 => 60 | 247 => 66 | 279 => 67 | 280 => 68 | 281 => 69 | 282 => 70 | 287 => 77 | 316 => 78 | 171 => 44 | 205 => 79 | 321 => 85 | 322 => 86 | 243 => 56 | 246 => 61 | 283 => 71 | 284 => 72 | 285 => 73 | 286 => 74 | 129 => 81 | 317 => 80 | 318 => 82 | 319 => 83 | 320 => 84 | 337 => 87 | 338 => 88 | n => n, fun | 9 => 9 | 3 => 3 | 75 => 61 | 76 => 62 | 4 => 4 | 5 => 5 | 167 => 76 | 37 => 68 | 0 => 0 | 85 => 77 | 2 => 2 | 168 => 79 | 53 => 83 | 175 => 91 | 46 => 75 | 210 => 95 | 127 => 103 | 145 => 106 | 143 => 104 | 21 => 21 | 171 => 82 | 173 => 86 | 212 => 98 | 51 => 88 | 20 => 20 | 213 => 99 | 232 => 108 | 233 => 109 | 80 => 110 | n => n, fun | 15 => 1 | 16 => 2 | 17 => 3 | 18 => 4 | 19 => 5 | n => n⟩
theorem Tryd.laysC172 : Go.Proofs.LaysC.n172 Tryd.prog Tryd.laysC172_ren := {
 mixed := by kernel_rfl
 f129 := Tryd.func81.trans (congrArg some (by kernel_rfl))
 f171 := Tryd.func44.trans (congrArg some (by kernel_rfl))
 f172 := Tryd.func51.trans (congrArg some (by kernel_rfl))
 f205 := Tryd.func79.trans (congrArg some (by kernel_rfl))
 f243 := Tryd.func56.trans (congrArg some (by kernel_rfl))
 f244 := Tryd.func59.trans (congrArg some (by kernel_rfl))
 f245 := Tryd.func60.trans (congrArg some (by kernel_rfl))
 f246 := Tryd.func61.trans (congrArg some (by kernel_rfl))
 f247 := Tryd.func66.trans (congrArg some (by kernel_rfl))
 f279 := Tryd.func67.trans (congrArg some (by kernel_rfl))
 f280 := Tryd.func68.trans (congrArg some (by kernel_rfl))
 f281 := Tryd.func69.trans (congrArg some (by kernel_rfl))
 f282 := Tryd.func70.trans (congrArg some (by kernel_rfl))
 f283 := Tryd.func71.trans (congrArg some (by kernel_rfl))
 f284 := Tryd.func72.trans (congrArg some (by kernel_rfl))
 f285 := Tryd.func73.trans (congrArg some (by kernel_rfl))
 f286 := Tryd.func74.trans (congrArg some (by kernel_rfl))
 f287 := Tryd.func77.trans (congrArg some (by kernel_rfl))
 f316 := Tryd.func78.trans (congrArg some (by kernel_rfl))
 f317 := Tryd.func80.trans (congrArg some (by kernel_rfl))
 f318 := Tryd.func82.trans (congrArg some (by kernel_rfl))
 f319 := Tryd.func83.trans (congrArg some (by kernel_rfl))
 f320 := Tryd.func84.trans (congrArg some (by kernel_rfl))
 f321 := Tryd.func85.trans (congrArg some (by kernel_rfl))
 f322 := Tryd.func86.trans (congrArg some (by kernel_rfl))
 f337 := Tryd.func87.trans (congrArg some (by kernel_rfl))
 f338 := Tryd.func88.trans (congrArg some (by kernel_rfl))
 t0 := Tryd.underlying0
 a0 := Tryd.isAgg0
 z0 := Tryd.sizeOf0
 v0 := Tryd.zeroValue0
 t2 := Tryd.underlying2
 a2 := Tryd.isAgg2
 z2 := Tryd.sizeOf2
 v2 := Tryd.zeroValue2
 t3 := Tryd.underlying3
 a3 := Tryd.isAgg3
 z3 := Tryd.sizeOf3
 v3 := Tryd.zeroValue3
 t4 := Tryd.underlying4
 a4 := Tryd.isAgg4
 z4 := Tryd.sizeOf4
 v4 := Tryd.zeroValue4
 t5 := Tryd.underlying5
 a5 := Tryd.isAgg5
 z5 := Tryd.sizeOf5
 v5 := Tryd.zeroValue5
 t9 := Tryd.underlying9
 a9 := Tryd.isAgg9
 z9 := Tryd.sizeOf9
 v9 := Tryd.zeroValue9
 t20 := Tryd.underlying20
 a20 := Tryd.isAgg20
 z20 := Tryd.sizeOf20
 v20 := Tryd.zeroValue20
 t21 := Tryd.underlying21
 a21 := Tryd.isAgg21
 z21 := Tryd.sizeOf21
 v21 := Tryd.zeroValue21
 t37 := Tryd.underlying68
 a37 := Tryd.isAgg68
 z37 := Tryd.sizeOf68
 v37 := Tryd.zeroValue68
 t46 := Tryd.underlying75
 a46 := Tryd.isAgg75
 z46 := Tryd.sizeOf75
 v46 := Tryd.zeroValue75
 t51 := Tryd.underlying88
 a51 := Tryd.isAgg88
 z51 := Tryd.sizeOf88
 v51 := Tryd.zeroValue88
 t53 := Tryd.underlying83
 a53 := Tryd.isAgg83
 z53 := Tryd.sizeOf83
 v53 := Tryd.zeroValue83
 t75 := Tryd.underlying61
 a75 := Tryd.isAgg61
 z75 := Tryd.sizeOf61
 v75 := Tryd.zeroValue61
 t76 := Tryd.underlying62
 a76 := Tryd.isAgg62
 z76 := Tryd.sizeOf62
 v76 := Tryd.zeroValue62
 t85 := Tryd.underlying77
 a85 := Tryd.isAgg77
 z85 := Tryd.sizeOf77
 v85 := Tryd.zeroValue77
 t127 := Tryd.underlying103
 a127 := Tryd.isAgg103
 z127 := Tryd.sizeOf103
 v127 := Tryd.zeroValue103
 t143 := Tryd.underlying104
 a143 := Tryd.isAgg104
 z143 := Tryd.sizeOf104
 v143 := Tryd.zeroValue104
 t145 := Tryd.underlying106
 a145 := Tryd.isAgg106
 z145 := Tryd.sizeOf106
 v145 := Tryd.zeroValue106
 t167 := Tryd.underlying76
 a167 := Tryd.isAgg76
 z167 := Tryd.sizeOf76
 v167 := Tryd.zeroValue76
 t168 := Tryd.underlying79
 a168 := Tryd.isAgg79
 z168 := Tryd.sizeOf79
 v168 := Tryd.zeroValue79
 t171 := Tryd.underlying82
 a171 := Tryd.isAgg82
 z171 := Tryd.sizeOf82
 v171 := Tryd.zeroValue82
 t173 := Tryd.underlying86
 a173 := Tryd.isAgg86
 z173 := Tryd.sizeOf86
 v173 := Tryd.zeroValue86
 t175 := Tryd.underlying91
 a175 := Tryd.isAgg91
 z175 := Tryd.sizeOf91
 v175 := Tryd.zeroValue91
 t210 := Tryd.underlying95
 a210 := Tryd.isAgg95
 z210 := Tryd.sizeOf95
 v210 := Tryd.zeroValue95
 t212 := Tryd.underlying98
 a212 := Tryd.isAgg98
 z212 := Tryd.sizeOf98
 v212 := Tryd.zeroValue98
 t213 := Tryd.underlying99
 a213 := Tryd.isAgg99
 z213 := Tryd.sizeOf99
 t232 := Tryd.underlying108
 a232 := Tryd.isAgg108
 z232 := Tryd.sizeOf108
 v232 := Tryd.zeroValue108
 t233 := Tryd.underlying109
 a233 := Tryd.isAgg109
 z233 := Tryd.sizeOf109
 v233 := Tryd.zeroValue109
 g15 := by kernel_rfl
 g16 := by kernel_rfl
 g17 := by kernel_rfl
 g18 := by kernel_rfl
 g19 := by kernel_rfl
 t80 := Tryd.underlying110
 a80 := Tryd.isAgg110
 z80 := Tryd.sizeOf110
 v80 := Tryd.zeroValue110
 i0 := by kernel_rfl
 i2 := by kernel_rfl
 i3 := by kernel_rfl
 i4 := by kernel_rfl
 i5 := by kernel_rfl
 i9 := by kernel_rfl
 i20 := by kernel_rfl
 i21 := by kernel_rfl
 i37 := by kernel_rfl
 i46 := by kernel_rfl
 i51 := by kernel_rfl
 i53 := by kernel_rfl
 i75 := by kernel_rfl
 i76 := by kernel_rfl
 i80 := by kernel_rfl
 i85 := by kernel_rfl
 i127 := by kernel_rfl
 i143 := by kernel_rfl
 i145 := by kernel_rfl
 i167 := by kernel_rfl
 i168 := by kernel_rfl
 i171 := by kernel_rfl
 i173 := by kernel_rfl
 i175 := by kernel_rfl
 i210 := by kernel_rfl
 i212 := by kernel_rfl
 i232 := by kernel_rfl
 i233 := by kernel_rfl
 m15 := by kernel_rfl
 m16 := by kernel_rfl
 m17 := by kernel_rfl
 m18 := by kernel_rfl
 m19 := by kernel_rfl
 c0 := by kernel_rfl
 c2 := by kernel_rfl
 c3 := by kernel_rfl
 c4 := by kernel_rfl
 c5 := by kernel_rfl
 c9 := by kernel_rfl
 c20 := by kernel_rfl
 c21 := by kernel_rfl
 c37 := by kernel_rfl
 c46 := by kernel_rfl
 c51 := by kernel_rfl
 c53 := by kernel_rfl
 c75 := by kernel_rfl
 c76 := by kernel_rfl
 c80 := by kernel_rfl
 c85 := by kernel_rfl
 c127 := by kernel_rfl
 c143 := by kernel_rfl
 c145 := by kernel_rfl
 c167 := by kernel_rfl
 c168 := by kernel_rfl
 c171 := by kernel_rfl
 c173 := by kernel_rfl
 c175 := by kernel_rfl
 c210 := by kernel_rfl
 c212 := by kernel_rfl
 c213 := by kernel_rfl
 c232 := by kernel_rfl
 c233 := by kernel_rfl }
open Go.RowKit in
/-- strconv.Atoi, AT EVERY STRING THAT SPELLS AN int ('Lib.atoiAll .. = .ok v'; of whatever length: leading zeros count): v, AND NO ERROR. The world: as it was, or with the one new row that '[]byte(..)' lays. (LAID: no walk: one application.) -/
theorem Tryd.strconv_Atoi_ok (s : ByteArray) (hmax : s.size ≤ 9223372036854775806) (v : Int) (h : Lib.atoiAll s.data.toList = .ok v) (w : World) :
  Calls Tryd.prog 51 #[.string s] w fun e w' => e = .returned (.tuple #[.int .i64 v, .nilIface]) ∧ (w' = w ∨ ∃ t, w' = Lib.bytesWorld w 5 t) := Any.strconv_Atoi_ok Tryd.laysC172 s hmax v h w
open Go.RowKit in
theorem Tryd.strconv_Atoi_syntax_var (s : ByteArray) (hlim : s.size ≤ 281474976710656) (h : Lib.atoiAll s.data.toList = .«syntax») (tp : TypeId) (p : Value) (w : World) (hvar : w.var? Tryd.prog "strconv.ErrSyntax" = some #[.iface tp p]) :
  Calls Tryd.prog 51 #[.string s] w fun e w' => ∃ N, e = .returned (.tuple #[.int .i64 0, .iface 79 (.pointer (some ⟨N, 0, none⟩))]) ∧ w.heap.size ≤ N ∧ w'.heap[N]? = some (.cells #[.string ⟨#[65, 116, 111, 105]⟩, .string s, .iface tp p] 95 (0, 0)) ∧ Below w.heap.size w w' := Any.strconv_Atoi_syntax_var Tryd.laysC172 s hlim h tp p w hvar
open Go.RowKit in
theorem Tryd.strconv_Atoi_range_var (s : ByteArray) (hlim : s.size ≤ 281474976710656) (h : Lib.atoiAll s.data.toList = .range) (tp : TypeId) (p : Value) (w : World) (hvar : w.var? Tryd.prog "strconv.ErrRange" = some #[.iface tp p]) :
  Calls Tryd.prog 51 #[.string s] w fun e w' => ∃ N, e = .returned (.tuple #[.int .i64 (Lib.atoiSat s.data.toList), .iface 79 (.pointer (some ⟨N, 0, none⟩))]) ∧ w.heap.size ≤ N ∧ w'.heap[N]? = some (.cells #[.string ⟨#[65, 116, 111, 105]⟩, .string s, .iface tp p] 95 (0, 0)) ∧ Below w.heap.size w w' := Any.strconv_Atoi_range_var Tryd.laysC172 s hlim h tp p w hvar
def Tryd.lays145_ren : Go.Shelf.Ren := ⟨fun | 145 => 36 | 220 => 50 | 219 => 58 | 217 => 62 | 225 => 63 | 224 => 64 | 267 => 65 | 266 => 75 | 314 => 76 | n => n, fun | 9 => 9 | 4 => 4 | 59 => 50 | 3 => 3 | 5 => 5 | 46 => 75 | 146 => 89 | 51 => 88 | n => n, fun | 1 => 0 | n => n⟩
theorem Tryd.lays145 : Go.Proofs.Lays.n145 Tryd.prog Tryd.lays145_ren := {
 mixed := by kernel_rfl
 f145 := Tryd.func36.trans (congrArg some (by kernel_rfl))
 f217 := Tryd.func62.trans (congrArg some (by kernel_rfl))
 f219 := Tryd.func58.trans (congrArg some (by kernel_rfl))
 f220 := Tryd.func50.trans (congrArg some (by kernel_rfl))
 f224 := Tryd.func64.trans (congrArg some (by kernel_rfl))
 f225 := Tryd.func63.trans (congrArg some (by kernel_rfl))
 f266 := Tryd.func75.trans (congrArg some (by kernel_rfl))
 f267 := Tryd.func65.trans (congrArg some (by kernel_rfl))
 f314 := Tryd.func76.trans (congrArg some (by kernel_rfl))
 t3 := Tryd.underlying3
 a3 := Tryd.isAgg3
 z3 := Tryd.sizeOf3
 v3 := Tryd.zeroValue3
 t4 := Tryd.underlying4
 a4 := Tryd.isAgg4
 z4 := Tryd.sizeOf4
 v4 := Tryd.zeroValue4
 t5 := Tryd.underlying5
 a5 := Tryd.isAgg5
 z5 := Tryd.sizeOf5
 v5 := Tryd.zeroValue5
 t9 := Tryd.underlying9
 a9 := Tryd.isAgg9
 z9 := Tryd.sizeOf9
 v9 := Tryd.zeroValue9
 t46 := Tryd.underlying75
 a46 := Tryd.isAgg75
 z46 := Tryd.sizeOf75
 v46 := Tryd.zeroValue75
 t51 := Tryd.underlying88
 a51 := Tryd.isAgg88
 z51 := Tryd.sizeOf88
 v51 := Tryd.zeroValue88
 t59 := Tryd.underlying50
 a59 := Tryd.isAgg50
 z59 := Tryd.sizeOf50
 v59 := Tryd.zeroValue50
 t146 := Tryd.underlying89
 a146 := Tryd.isAgg89
 z146 := Tryd.sizeOf89
 v146 := Tryd.zeroValue89
 g1 := by kernel_rfl }
open Go.RowKit Go.Lib in
/-- strings.Cut: "Cut slices s around the first instance of sep, returning the text before and after sep. The found result reports whether sep appears in s. If sep does not appear in s, cut returns s, "", false.": IT RETURNS 'Lib.cut s sep'; the world is as it was but for the count of draws. (LAID: no walk: one application.) -/
theorem Tryd.strings_Cut (s sep : ByteArray) (m : Int) (w : World) (hs : s.size < 4294967281) (hm : w.cell? ⟨0, 0, none⟩ = some (.int .i64 m)) :
  Calls Tryd.prog 36 #[.string s, .string sep] w fun e w' => e = .returned (.tuple #[.string ⟨(Lib.cut s.data.toList sep.data.toList).1.toArray⟩, .string ⟨(Lib.cut s.data.toList sep.data.toList).2.1.toArray⟩, .bool (Lib.cut s.data.toList sep.data.toList).2.2]) ∧ ∃ n, w' = w.drewN n := Any.strings_Cut Tryd.lays145 s sep m w hs hm
end Go.Proofs

namespace Go.Proofs.YtakodhlaphloeaaDoor.P
open Go.RowKit Go.Proofs.YtakodhlaphloeaaDoorW.PrintWords Go.Proofs.YtakodhlaphloeaaDoorW.PrintLast Go.Proofs.YtakodhlaphloeaaDoorW.PrintMore
attribute [local go_sem] max2_int min2_int max_two min_two max_three min_three max_four min_four   -- for this text's walks alone
set_option linter.unusedVariables false
set_option linter.unusedSimpArgs false



def errW : Option Int → Value
 | none => .nilIface
 | some c => .iface 76 (.int .i64 c)
theorem errW_none : errW none = .nilIface := rfl
theorem errW_some (c : Int) : errW (some c) = .iface 76 (.int .i64 c) := rfl

theorem info3 : (Tryd.prog.info? 3).map (fun i => (i.zero, i.size, i.bytes)) = some (some (.int .i64 0), 1, 8) := by kernel_rfl
theorem info5 : (Tryd.prog.info? 5).map (fun i => (i.zero, i.size, i.bytes)) = some (some (.int .u8 0), 1, 1) := by kernel_rfl
theorem info9 : (Tryd.prog.info? 9).map (fun i => (i.zero, i.size, i.bytes)) = some (some (.string ⟨#[]⟩), 1, 16) := by kernel_rfl
theorem info41 : (Tryd.prog.info? 41).map (fun i => (i.zero, i.size, i.bytes)) = some (some (.slice none 0 0), 1, 24) := by kernel_rfl
-- the values' own types
def rd_L2 (xs : List (List Int)) (i : Int) : (List Int) := xs.getD i.toNat ([] : List Int)
theorem at_L2 {w : World} {A : Option Addr} {n : Nat} {xs : List (List Int)} (h : Kd.C (Kd.slice 3 (Kd.int .i64)) w A n xs) (i : Int) (h0 : 0 ≤ i) (h1 : i < n) : ∃ ad A0 c0, A = some ad ∧ w.cell? (ad.add i.toNat) = some (.slice A0 (rd_L2 xs i).length c0) ∧ (rd_L2 xs i).length ≤ c0 ∧ (Kd.int .i64).C w A0 (rd_L2 xs i).length (rd_L2 xs i) := by
 obtain ⟨ad, c, e, _, hK, hc0⟩ := Kd.C_get h ([] : List Int) i h0 h1
 have hc : ∀ j u, c[j]? = some u → w.cell? (ad.add (i.toNat * 1 + j)) = some u := hc0
 obtain ⟨A0, c0, rfl, l0, g0⟩ := hK
 exact ⟨ad, A0, c0, e, by have hq := hc 0 _ rfl; rwa [Nat.mul_one, Nat.add_zero] at hq, l0, g0⟩


theorem eqA23 (d : Nat) (w : World) (x0 y0 : Int) (x1 y1 : Int) (x2 y2 : Int) (x3 y3 : Int) :
  (Op.equalIn (d + 2) 23 (.agg #[.int .i64 x0, .int .i64 x1, .int .i64 x2, .int .i64 x3]) (.agg #[.int .i64 y0, .int .i64 y1, .int .i64 y2, .int .i64 y3])).run Tryd.prog w = .ok (x0 == y0 && (x1 == y1 && (x2 == y2 && (x3 == y3)))) w := by
 refine eqA_of Tryd.underlying23 (by kernel_rfl) ?_
 refine eqf_cons (by rfl) zO0_4 zO0_4 (by go_simp) ?_
 refine eqf_cons (by rfl) zO0_4 zO0_4 (by go_simp) ?_
 refine eqf_cons (by rfl) zO0_4 zO0_4 (by go_simp) ?_
 exact eqf_last (by rfl) zO0_4 zO0_4 (by go_simp)

/-! ### zwords: function 0 -/
theorem zb {w w1 w2 : World} {g : Nat} {o : Obj} (h : Aside0 (w.heap[g]? = some o)) (hb : Below w1.heap.size w1 w2) (hp : w.heap[g]? = some o → w1.heap[g]? = some o := by intro h_; (with_reducible repeat (first | refine blk_drewN ?_ _ | refine blk_drew ?_ | refine blk_alloc ?_ _ | refine blk_far ?_ (Aside0.out zO0_5) _)); exact h_) : Aside0 (w2.heap[g]? = some o) := ⟨blk_below (hp h.out) hb⟩
theorem zk {w w1 : World} {g : Nat} {o : Obj} (h : Aside0 (w.heap[g]? = some o)) (hp : w.heap[g]? = some o → w1.heap[g]? = some o := by intro h_; (with_reducible repeat (first | refine blk_drewN ?_ _ | refine blk_drew ?_ | refine blk_alloc ?_ _ | refine blk_far ?_ (Aside0.out zO0_5) _)); exact h_) : Aside0 (w1.heap[g]? = some o) := ⟨hp h.out⟩
theorem zq {w w1 : World} {g : Nat} {o : Obj} (h : Aside0 (w.heap[g]? = some o)) (hp : w.heap[g]? = some o → w1.heap[g]? = some o := by intro h_; (with_reducible repeat (first | refine blk_drewN ?_ _ | refine blk_drew ?_ | refine blk_alloc ?_ _ | refine blk_far ?_ (Aside0.out zO0_5) _)); exact h_) : w1.heap[g]? = some o := hp h.out
theorem zl {w w1 : World} {g g2 : Nat} {o : Obj} (h : Aside0 (w.heap[g]? = some o)) (hg : g2 = w1.heap.size) (hp : w.heap[g]? = some o → w1.heap[g]? = some o := by intro h_; (with_reducible repeat (first | refine blk_drewN ?_ _ | refine blk_drew ?_ | refine blk_alloc ?_ _ | refine blk_far ?_ (Aside0.out zO0_5) _)); exact h_) : Aside0 (g ≠ g2) := ⟨by rw [hg]; exact Nat.ne_of_lt (blk_lt (hp h.out))⟩
theorem zr {w w1 : World} {g g2 : Nat} {o : Obj} (h : Aside0 (w.heap[g]? = some o)) (hg : g2 = w1.heap.size) (hp : w.heap[g]? = some o → w1.heap[g]? = some o := by intro h_; (with_reducible repeat (first | refine blk_drewN ?_ _ | refine blk_drew ?_ | refine blk_alloc ?_ _ | refine blk_far ?_ (Aside0.out zO0_5) _)); exact h_) : Aside0 (g2 ≠ g) := ⟨by rw [hg]; exact Nat.ne_of_gt (blk_lt (hp h.out))⟩
theorem zh {b w w1 w2 : World} (h : Aside0 (Below b.heap.size b w)) (hb : Below w1.heap.size w1 w2) (hp : Below b.heap.size b w → Below b.heap.size b w1 := by intro h_; repeat (first | (with_reducible first | exact h_ | apply below_alloc | apply pw_below_drewN | apply below_drew1 | refine below_set ?_ (Aside0.out zO0_5)) | exact h_)) : Aside0 (Below b.heap.size b w2) := ⟨below_step (hp h.out) hb⟩
theorem zi {b w w1 : World} (h : Aside0 (Below b.heap.size b w)) (hp : Below b.heap.size b w → Below b.heap.size b w1 := by intro h_; repeat (first | (with_reducible first | exact h_ | apply below_alloc | apply pw_below_drewN | apply below_drew1 | refine below_set ?_ (Aside0.out zO0_5)) | exact h_)) : Aside0 (Below b.heap.size b w1) := ⟨hp h.out⟩
theorem zg {b w w1 : World} {g : Nat} (h : Aside0 (Below b.heap.size b w)) (hg : g = w1.heap.size) (hp : Below b.heap.size b w → Below b.heap.size b w1 := by intro h_; repeat (first | (with_reducible first | exact h_ | apply below_alloc | apply pw_below_drewN | apply below_drew1 | refine below_set ?_ (Aside0.out zO0_5)) | exact h_)) : Aside0 (b.heap.size ≤ g) := ⟨by rw [hg]; exact below_size (hp h.out)⟩
theorem zo {α : Type} {d : Kd α} {e : Nat} {w w1 w2 : World} {b : Nat} {ok : Nat → Prop} {v : Value} {xs : List α} (h : Aside0 (d.R e w b ok v xs)) (hb : Below w1.heap.size w1 w2) (hp : d.R e w b ok v xs → d.R e w1 b ok v xs := by intro h_; (with_reducible repeat (first | apply Kd.R_alloc | apply Kd.R_drewN | apply Kd.R_drew)); exact h_) : Aside0 (d.R e w2 b ok v xs) := ⟨Kd.R_below (hp h.out) hb⟩
theorem zp {α : Type} {d : Kd α} {e : Nat} {w w1 : World} {b : Nat} {ok : Nat → Prop} {v : Value} {xs : List α} (h : Aside0 (d.R e w b ok v xs)) (hp : d.R e w b ok v xs → d.R e w1 b ok v xs := by intro h_; (with_reducible repeat (first | apply Kd.R_alloc | apply Kd.R_drewN | apply Kd.R_drew)); exact h_) : Aside0 (d.R e w1 b ok v xs) := ⟨hp h.out⟩
theorem zs {α : Type} {d : Kd α} {e : Nat} {w w1 : World} {b : Nat} {ok : Nat → Prop} {v : Value} {xs : List α} (h : Aside0 (d.R e w b ok v xs)) (hp : d.R e w b ok v xs → d.R e w1 b ok v xs := by intro h_; (with_reducible repeat (first | apply Kd.R_alloc | apply Kd.R_drewN | apply Kd.R_drew)); exact h_) : d.R e w1 b ok v xs := hp h.out
theorem zy {b w w1 : World} (h : Aside0 (Below b.heap.size b w)) (hp : Below b.heap.size b w → Below b.heap.size b w1 := by intro h_; repeat (first | (with_reducible first | exact h_ | apply below_alloc | apply pw_below_drewN | apply below_drew1 | refine below_set ?_ (Aside0.out zO0_5)) | exact h_)) : Below b.heap.size b w1 := hp h.out
theorem zt {p : Prop} (h : p := by first | rfl | (simp [errW_none, errW_some] <;> rfl) | (simp [*, errW_none, errW_some] <;> rfl)) : p := h
theorem zu {p : Prop} (h : p := by first | rfl | (simp; done) | (simp [*]; done)) : p := h
theorem zc1 {w : World} {g : Nat} {t : TypeId} {a : Value} (h : Aside0 (w.heap[g]? = some (.cells #[a] t (0, 0)))) : w.cell? ⟨g, 0, none⟩ = some a ∧ w.frozen? ⟨g, 0, none⟩ = false := ⟨(blk_cell h.out 0).trans rfl, blk_frozen h.out 0⟩
theorem zc2 {w : World} {g : Nat} {t : TypeId} {a0 a1 : Value} (h : Aside0 (w.heap[g]? = some (.cells #[a0, a1] t (0, 0)))) : w.cell? ⟨g, 0, none⟩ = some a0 ∧ w.cell? ⟨g, 1, none⟩ = some a1 ∧ w.frozen? ⟨g, 0, none⟩ = false ∧ w.frozen? ⟨g, 1, none⟩ = false := ⟨(blk_cell h.out 0).trans rfl, (blk_cell h.out 1).trans rfl, blk_frozen h.out 0, blk_frozen h.out 1⟩
theorem zc3 {w : World} {g : Nat} {t : TypeId} {a0 a1 a2 : Value} (h : Aside0 (w.heap[g]? = some (.cells #[a0, a1, a2] t (0, 0)))) : w.cell? ⟨g, 0, none⟩ = some a0 ∧ w.cell? ⟨g, 1, none⟩ = some a1 ∧ w.cell? ⟨g, 2, none⟩ = some a2 ∧ w.frozen? ⟨g, 0, none⟩ = false ∧ w.frozen? ⟨g, 1, none⟩ = false ∧ w.frozen? ⟨g, 2, none⟩ = false := ⟨(blk_cell h.out 0).trans rfl, (blk_cell h.out 1).trans rfl, (blk_cell h.out 2).trans rfl, blk_frozen h.out 0, blk_frozen h.out 1, blk_frozen h.out 2⟩
theorem zc4 {w : World} {g : Nat} {t : TypeId} {a0 a1 a2 a3 : Value} (h : Aside0 (w.heap[g]? = some (.cells #[a0, a1, a2, a3] t (0, 0)))) : w.cell? ⟨g, 0, none⟩ = some a0 ∧ w.cell? ⟨g, 1, none⟩ = some a1 ∧ w.cell? ⟨g, 2, none⟩ = some a2 ∧ w.cell? ⟨g, 3, none⟩ = some a3 ∧ w.frozen? ⟨g, 0, none⟩ = false ∧ w.frozen? ⟨g, 1, none⟩ = false ∧ w.frozen? ⟨g, 2, none⟩ = false ∧ w.frozen? ⟨g, 3, none⟩ = false := ⟨(blk_cell h.out 0).trans rfl, (blk_cell h.out 1).trans rfl, (blk_cell h.out 2).trans rfl, (blk_cell h.out 3).trans rfl, blk_frozen h.out 0, blk_frozen h.out 1, blk_frozen h.out 2, blk_frozen h.out 3⟩
theorem zc5 {w : World} {g : Nat} {t : TypeId} {a0 a1 a2 a3 a4 : Value} (h : Aside0 (w.heap[g]? = some (.cells #[a0, a1, a2, a3, a4] t (0, 0)))) : w.cell? ⟨g, 0, none⟩ = some a0 ∧ w.cell? ⟨g, 1, none⟩ = some a1 ∧ w.cell? ⟨g, 2, none⟩ = some a2 ∧ w.cell? ⟨g, 3, none⟩ = some a3 ∧ w.cell? ⟨g, 4, none⟩ = some a4 ∧ w.frozen? ⟨g, 0, none⟩ = false ∧ w.frozen? ⟨g, 1, none⟩ = false ∧ w.frozen? ⟨g, 2, none⟩ = false ∧ w.frozen? ⟨g, 3, none⟩ = false ∧ w.frozen? ⟨g, 4, none⟩ = false := ⟨(blk_cell h.out 0).trans rfl, (blk_cell h.out 1).trans rfl, (blk_cell h.out 2).trans rfl, (blk_cell h.out 3).trans rfl, (blk_cell h.out 4).trans rfl, blk_frozen h.out 0, blk_frozen h.out 1, blk_frozen h.out 2, blk_frozen h.out 3, blk_frozen h.out 4⟩
theorem zc6 {w : World} {g : Nat} {t : TypeId} {a0 a1 a2 a3 a4 a5 : Value} (h : Aside0 (w.heap[g]? = some (.cells #[a0, a1, a2, a3, a4, a5] t (0, 0)))) : w.cell? ⟨g, 0, none⟩ = some a0 ∧ w.cell? ⟨g, 1, none⟩ = some a1 ∧ w.cell? ⟨g, 2, none⟩ = some a2 ∧ w.cell? ⟨g, 3, none⟩ = some a3 ∧ w.cell? ⟨g, 4, none⟩ = some a4 ∧ w.cell? ⟨g, 5, none⟩ = some a5 ∧ w.frozen? ⟨g, 0, none⟩ = false ∧ w.frozen? ⟨g, 1, none⟩ = false ∧ w.frozen? ⟨g, 2, none⟩ = false ∧ w.frozen? ⟨g, 3, none⟩ = false ∧ w.frozen? ⟨g, 4, none⟩ = false ∧ w.frozen? ⟨g, 5, none⟩ = false := ⟨(blk_cell h.out 0).trans rfl, (blk_cell h.out 1).trans rfl, (blk_cell h.out 2).trans rfl, (blk_cell h.out 3).trans rfl, (blk_cell h.out 4).trans rfl, (blk_cell h.out 5).trans rfl, blk_frozen h.out 0, blk_frozen h.out 1, blk_frozen h.out 2, blk_frozen h.out 3, blk_frozen h.out 4, blk_frozen h.out 5⟩
theorem zE {P : Program} {ops : Array Oper} {rest : List Oper} {o : Oper} {a : Act} {Q : Exit → Act → World → Prop} {W : World} (N : Tmp) (cs : Array Value) (t : TypeId) (h : ∀ g, g = W.heap.size → ∀ w1, w1.heap[g]? = some (.cells cs t (0, 0)) → Below W.heap.size W w1 → wpList P ops Q rest (a.put o.dst (.pointer (some ⟨g, 0, none⟩))) w1) (hd : o.dst = some N := by rfl) (hgd : o.guard = none := by rfl) (hrun : (execOp a.eval o).run P W = .ok (.value (.pointer (some ⟨W.heap.size, 0, none⟩))) (W.alloc (.cells cs t (0, 0))) := by first | (go_simp; done) | (go_simp; rfl)) : wpList P ops Q (o :: rest) a W := box_event hgd hd hrun h
theorem zG {P : Program} {ops : Array Oper} {Q : Exit → Act → World → Prop} {rest : List Oper} {oi : Oper} {a : Act} {w : World} (N : Option Tmp) {f : FuncId} {fn : Func} {ao : Array Operand} {ts : Array TypeId} (hf : P.funcs[f]? = some fn) (args : Array Value) (h : Calls P f args w fun e w' => ∃ v, e = .returned v ∧ wpList P ops Q rest (a.put N v) w') (hd : oi.dst = N := by rfl) (hg : oi.guard = none := by rfl) (hname : (fn.name == "runtime.NumGoroutine") = false := by kernel_rfl) (hb : fn.body.isSome = true := by rfl) (hop : oi.op = .call { callee := .value (.func f), args := ao, argTypes := ts } := by rfl) (hargs : ao.map a.eval = args := by ((try simp only [List.map_toArray, List.map_cons, List.map_nil]); first | done | rfl | (simp only [List.length_drop, List.length_take]; rfl))) : wpList P ops Q (oi :: rest) a w := goesL_ N hd hg hf hname hb args hop hargs h
theorem zw_set {w : World} {g : Nat} {t : TypeId} {cs : Array Value} {i : Nat} {u : Value} (zw_1 : w.heap[g]? = some (.cells cs t (0, 0))) : (w.setCell ⟨g, i, none⟩ u).heap[g]? = some (.cells (cs.setIfInBounds i u) t (0, 0)) := blk_set zw_1 i u
theorem zw_far {w : World} {g : Nat} {t : TypeId} {cs : Array Value} {p : Addr} {u : Value} (zw_2 : w.heap[g]? = some (.cells cs t (0, 0))) (zw_3 : Aside0 (g ≠ p.block)) : (w.setCell p u).heap[g]? = some (.cells cs t (0, 0)) := blk_far zw_2 zw_3.out u
theorem zw {w w1 : World} {g : Nat} {t : TypeId} {cs cs1 cs2 : Array Value} (h : Aside0 (w.heap[g]? = some (.cells cs t (0, 0)))) (hp : w.heap[g]? = some (.cells cs t (0, 0)) → w1.heap[g]? = some (.cells cs1 t (0, 0)) := by (intro h_; (with_reducible repeat (first | refine blk_drewN ?_ _ | refine blk_drew ?_ | refine blk_alloc ?_ _ | apply zw_set | (apply zw_far; rotate_left; assumption))); exact h_)) (he : cs1 = cs2 := by rfl) : w1.heap[g]? = some (.cells cs2 t (0, 0)) := he ▸ hp h.out
theorem zKe {w w1 w2 : World} {g : Nat} {row : Option Nat} (h : Aside0 (KeepBut w w1 g row)) (hp : KeepBut w w1 g row → KeepBut w w2 g row := by (intro h_; repeat (first | (with_reducible first | exact h_ | apply KeepBut.set_ | apply keep_drewN | apply keep_drew | apply keep_alloc | refine keep_far ?_ (Aside0.out zO0_5) _) | exact h_))) : KeepBut w w2 g row := hp h.out
theorem zKb {w w1 w2 w3 : World} {g : Nat} {row : Option Nat} (h : Aside0 (KeepBut w w1 g row)) (hb : Below w2.heap.size w2 w3) (hp : KeepBut w w1 g row → KeepBut w w2 g row := by (intro h_; repeat (first | (with_reducible first | exact h_ | apply KeepBut.set_ | apply keep_drewN | apply keep_drew | apply keep_alloc | refine keep_far ?_ (Aside0.out zO0_5) _) | exact h_))) : Aside0 (KeepBut w w3 g row) := ⟨KeepBut.trans (hp h.out) (KeepBut.of_below hb g row) (.inl rfl)⟩
theorem zKt {w w1 w2 w3 : World} {g : Nat} {row : Option Nat} (h : Aside0 (KeepBut w w1 g row)) (hk : KeepBut w2 w3 g row) (hp : KeepBut w w1 g row → KeepBut w w2 g row := by (intro h_; repeat (first | (with_reducible first | exact h_ | apply KeepBut.set_ | apply keep_drewN | apply keep_drew | apply keep_alloc | refine keep_far ?_ (Aside0.out zO0_5) _) | exact h_))) : Aside0 (KeepBut w w3 g row) := ⟨KeepBut.trans (hp h.out) hk (.inl rfl)⟩
theorem zKg {w w1 w2 : World} {g g2 : Nat} {row : Option Nat} (h : Aside0 (KeepBut w w1 g row)) (hg : g2 = w2.heap.size) (hp : KeepBut w w1 g row → KeepBut w w2 g row := by (intro h_; repeat (first | (with_reducible first | exact h_ | apply KeepBut.set_ | apply keep_drewN | apply keep_drew | apply keep_alloc | refine keep_far ?_ (Aside0.out zO0_5) _) | exact h_))) : Aside0 (w.heap.size ≤ g2) := ⟨by rw [hg]; exact keep_size (hp h.out)⟩
theorem zKB {w w1 w2 : World} {g g' : Nat} {row : Option Nat} {o : Obj} (h : Aside0 (w.heap[g']? = some o)) (hk : KeepBut w1 w2 g row) (hne : Aside0 (g' ≠ g) := by assumption) (hr : some g' ≠ row := by simp) (hp : w.heap[g']? = some o → w1.heap[g']? = some o := by intro h_; (with_reducible repeat (first | refine blk_drewN ?_ _ | refine blk_drew ?_ | refine blk_alloc ?_ _ | refine blk_far ?_ (Aside0.out zO0_5) _)); exact h_) : Aside0 (w2.heap[g']? = some o) := ⟨KeepBut.blk hk (hp h.out) hne.out hr⟩
theorem zset2 (w : World) (a : Addr) (u v : Value) : (w.setCell a u).setCell a v = w.setCell a v := by
 unfold World.setCell
 simp only [World.mk.injEq, and_true]
 apply Array.ext_getElem?
 intro i
 rw [Array.getElem?_modify, Array.getElem?_modify, Array.getElem?_modify]
 by_cases h : a.block = i
 ·simp only [h, if_true, Option.map_map]
  cases w.heap[i]? with
  | none => rfl
  | some o =>
   simp only [Option.map_some, Function.comp]
   cases o with
   | cells c e f => simp only []; split <;> simp
   | _ => rfl
 ·simp only [h, if_false]
theorem zcellD (w : World) (n : Nat) (a : Addr) : (w.drewN n).cell? a = w.cell? a := by cases n <;> rfl
theorem zfrozenD (w : World) (n : Nat) (a : Addr) : (w.drewN n).frozen? a = w.frozen? a := by cases n <;> rfl



/-! ### zregs: function 0 -/
theorem zA {P : Program} {ops : Array Oper} {Q : Exit → Act → World → Prop} {md : Region.Mode} {S : World → Prop} {ds : List Nat} {T : Bool × List (List Nat × List Nat)} (i : Nat) (N : Nat) {oi : Oper} {v : Value} {fuel : Nat} {l l' : Array Bool} {a a' : Act} {w : World} (hT : Aside0 (rtab md ops = T)) (h : wpAnyLast P md ops Q S ds fuel l' a' w) (hi : ops[i]? = some oi := by rfl) (hN : oi.dst = some N := by rfl) (hl : l.setIfInBounds i true = l' := by (simp only [List.setIfInBounds_toArray, List.set_cons_zero, List.set_cons_succ]; rfl)) (hc : anyT T l.toList l'.toList i = true := by kernel_rfl) (hQ : ∀ c a w, Q (.panic c) (a.put oi.dst v) w → Q (.panic c) a w := by exact fun _ _ _ h => h) (hw : Region.wanted oi (yielded ops a.tmps) = true := by rfl) (hy : ∀ w, (execOp a.eval oi).run P w = .ok (.value v) w := by (intro w'; go_simp; with_reducible rfl)) (ha : a.put (some N) v = a' := by (simp only [Act.put, List.setIfInBounds_toArray, List.set_cons_zero, List.set_cons_succ, i64_w, i32_w]; rfl)) : wpAnyLast P md ops Q S ds (fuel + 1) l a w := pure_ l' hi hN (any_of hT.out hc) hQ (Or.inl ⟨hw, hy⟩) ha h
theorem zA0 {P : Program} {ops : Array Oper} {Q : Exit → Act → World → Prop} {md : Region.Mode} {S : World → Prop} {ds : List Nat} (i : Nat) (N : Nat) {oi : Oper} {v : Value} {fuel : Nat} {l l' : Array Bool} {a a' : Act} {w : World} (h : wpAnyLast P md ops Q S ds fuel l' a' w) (hi : ops[i]? = some oi := by rfl) (hN : oi.dst = some N := by rfl) (hl : l.setIfInBounds i true = l' := by (simp only [List.setIfInBounds_toArray, List.set_cons_zero, List.set_cons_succ]; rfl)) (hc : anyB md ops l l' i = true := by kernel_rfl) (hQ : ∀ c a w, Q (.panic c) (a.put oi.dst v) w → Q (.panic c) a w := by exact fun _ _ _ h => h) (hw : Region.wanted oi (yielded ops a.tmps) = true := by rfl) (hy : ∀ w, (execOp a.eval oi).run P w = .ok (.value v) w := by (intro w'; go_simp; with_reducible rfl)) (ha : a.put (some N) v = a' := by (simp only [Act.put, List.setIfInBounds_toArray, List.set_cons_zero, List.set_cons_succ, i64_w, i32_w]; rfl)) : wpAnyLast P md ops Q S ds (fuel + 1) l a w := pure_ l' hi hN hc hQ (Or.inl ⟨hw, hy⟩) ha h
theorem zAu {P : Program} {ops : Array Oper} {Q : Exit → Act → World → Prop} {md : Region.Mode} {S : World → Prop} {ds : List Nat} {T : Bool × List (List Nat × List Nat)} (i : Nat) (N : Nat) {oi : Oper} {fuel : Nat} {l l' : Array Bool} {a a' : Act} {w : World} (hT : Aside0 (rtab md ops = T)) (h : wpAnyLast P md ops Q S ds fuel l' a' w) (hi : ops[i]? = some oi := by rfl) (hN : oi.dst = some N := by rfl) (hl : l.setIfInBounds i true = l' := by (simp only [List.setIfInBounds_toArray, List.set_cons_zero, List.set_cons_succ]; rfl)) (hc : anyT T l.toList l'.toList i = true := by kernel_rfl) (hQ : ∀ c a w, Q (.panic c) (a.put oi.dst undef) w → Q (.panic c) a w := by exact fun _ _ _ h => h) (hw : Region.wanted oi (yielded ops a.tmps) = false := by rfl) (ha : a.put (some N) undef = a' := by (simp only [Act.put, List.setIfInBounds_toArray, List.set_cons_zero, List.set_cons_succ, i64_w, i32_w]; rfl)) : wpAnyLast P md ops Q S ds (fuel + 1) l a w := pure_ (v := undef) l' hi hN (any_of hT.out hc) hQ (Or.inr ⟨hw, rfl⟩) ha h
theorem zT {P : Program} {ops : Array Oper} {Q : Exit → Act → World → Prop} {md : Region.Mode} {S : World → Prop} {ds : List Nat} {T : Bool × List (List Nat × List Nat)} {B : List Nat} (i : Nat) (N : Nat) {oi : Oper} {v : Value} {fuel : Nat} {l l' : Array Bool} {a a' : Act} {w : World} (hT : Aside0 (rtab md ops = T)) (hB : Aside0 (waitsOk T.2 B = true)) (hS : S w) (h : wpAnyLast P md ops Q S ds fuel l' a' w) (hi : ops[i]? = some oi := by rfl) (hN : oi.dst = some N := by rfl) (hl : l.setIfInBounds i true = l' := by (simp only [List.setIfInBounds_toArray, List.set_cons_zero, List.set_cons_succ]; rfl)) (hc : takeW T B ds l.toList l'.toList i = true := by kernel_rfl) (hQ : ∀ c a w, Q (.panic c) (a.put oi.dst v) w → Q (.panic c) a w := by exact fun _ _ _ h => h) (hw : Region.wanted oi (yielded ops a.tmps) = true := by rfl) (hy : ∀ w, S w → (execOp a.eval oi).run P w = .ok (.value v) w := by (intro w' hs_; (repeat (have hs1_ := hs_.1; replace hs_ := hs_.2)); first | (go_simp; with_reducible rfl) | (simp only [Int.toNat_natCast] at *; go_simp; with_reducible rfl))) (ha : a.put (some N) v = a' := by (simp only [Act.put, List.setIfInBounds_toArray, List.set_cons_zero, List.set_cons_succ, i64_w, i32_w]; rfl)) : wpAnyLast P md ops Q S ds (fuel + 1) l a w := take_ l' hi hN (take_ofW hT.out hB.out hc) hQ (Or.inl ⟨hw, hy⟩) hS ha h
theorem zT0 {P : Program} {ops : Array Oper} {Q : Exit → Act → World → Prop} {md : Region.Mode} {S : World → Prop} {ds : List Nat} (i : Nat) (N : Nat) {oi : Oper} {v : Value} {fuel : Nat} {l l' : Array Bool} {a a' : Act} {w : World} (hS : S w) (h : wpAnyLast P md ops Q S ds fuel l' a' w) (hi : ops[i]? = some oi := by rfl) (hN : oi.dst = some N := by rfl) (hl : l.setIfInBounds i true = l' := by (simp only [List.setIfInBounds_toArray, List.set_cons_zero, List.set_cons_succ]; rfl)) (hc : takeB md ops ds l l' i = true := by kernel_rfl) (hQ : ∀ c a w, Q (.panic c) (a.put oi.dst v) w → Q (.panic c) a w := by exact fun _ _ _ h => h) (hw : Region.wanted oi (yielded ops a.tmps) = true := by rfl) (hy : ∀ w, S w → (execOp a.eval oi).run P w = .ok (.value v) w := by (intro w' hs_; (repeat (have hs1_ := hs_.1; replace hs_ := hs_.2)); first | (go_simp; with_reducible rfl) | (simp only [Int.toNat_natCast] at *; go_simp; with_reducible rfl))) (ha : a.put (some N) v = a' := by (simp only [Act.put, List.setIfInBounds_toArray, List.set_cons_zero, List.set_cons_succ, i64_w, i32_w]; rfl)) : wpAnyLast P md ops Q S ds (fuel + 1) l a w := take_ l' hi hN hc hQ (Or.inl ⟨hw, hy⟩) hS ha h
theorem zO {P : Program} {ops : Array Oper} {Q : Exit → Act → World → Prop} {md : Region.Mode} {S : World → Prop} {ds : List Nat} {T : Bool × List (List Nat × List Nat)} (i : Nat) (N : Option Tmp) {oi : Oper} {fuel : Nat} {l l' : Array Bool} {a : Act} {w : World} (hT : Aside0 (rtab md ops = T)) (h : ∀ K : Act → World → Prop, Shut (∀ a' w', S w' → (S w' → wpAnyLast P md ops Q S ds fuel l' a' w') → K a' w') → if Region.wanted oi (yielded ops a.tmps) = true then Oper.wp P oi a w K Q else K (a.put N undef) w)
  (hi : ops[i]? = some oi := by rfl) (hN : oi.dst = N := by rfl) (hl : l.setIfInBounds i true = l' := by (simp only [List.setIfInBounds_toArray, List.set_cons_zero, List.set_cons_succ]; rfl)) (hc : (readyT T.2 l.toList == [i] && l.toList.set i true == l'.toList) = true := by kernel_rfl) (hd : i ∉ ds := by decide) : wpAnyLast P md ops Q S ds (fuel + 1) l a w := one_ l' hi hN (one_of hT.out hc) hd h
theorem zN {P : Program} {ops : Array Oper} {Q : Exit → Act → World → Prop} {md : Region.Mode} {S : World → Prop} {ds : List Nat} (n : Nat) {fuel : Nat} {l : Array Bool} {a a' : Act} {w : World} {v : Value} (h : wpAnyLast P md ops Q S ds fuel l a' w) (ha : a.put (some n) v = a' := by (simp only [Act.put, List.setIfInBounds_toArray, List.set_cons_zero, List.set_cons_succ, i64_w, i32_w]; rfl)) : wpAnyLast P md ops Q S ds fuel l (a.put (some n) v) w := norm_ ha h



/-! ### slices_IndexFunc_int_int: function 57 -/
def hIdx (p : Int → Bool) : List Int → Nat → Int
 | [], _ => -1
 | x :: l, i => if p x then (i : Int) else hIdx p l (i + 1)
theorem hIdx_any (p : Int → Bool) : ∀ (l : List Int) (i : Nat), decide (hIdx p l i ≥ 0) = l.any p
 | [], i => by simp [hIdx]
 | x :: l, i => by
  simp only [hIdx, List.any_cons]
  by_cases h : p x = true
  ·simp only [h, Bool.true_or]; exact decide_eq_true (by rw [if_pos trivial]; omega)
  ·simp only [if_neg h, Bool.eq_false_iff.mpr h, Bool.false_or]; exact hIdx_any p l (i + 1)
theorem hIdx_drop (p : Int → Bool) (l : List Int) (i : Nat) (h : i < l.length) : hIdx p (l.drop i) i = if p (rd l i) then (i : Int) else hIdx p (l.drop (i + 1)) (i + 1) := by
 rw [List.drop_eq_getElem_cons h]
 simp [hIdx, rd, List.getD_eq_getElem?_getD, List.getElem?_eq_getElem h]

def hGives (g : Nat) (p : Int → Bool) : Prop := ∀ (x : Int) (W : World), Calls Tryd.prog g #[.int .i64 x] W fun e w' => e = .returned (.bool (p x)) ∧ Drawn0 W w'

set_option maxHeartbeats 8000000 in
theorem hIndexFunc (g : Nat) (p : Int → Bool) (hp : hGives g p) (eg : ∀ args w, (callFunc g args).run Tryd.prog w = .ok (.enter g args) w) (A0 : Option Addr) (c0 : Nat) (l0 : List Int) (w : World) (hr0 : Kd.C (Kd.int .i64) w A0 l0.length l0) (hc0 : l0.length ≤ c0) :
  Calls Tryd.prog 57 #[.slice A0 l0.length c0, .func (.func g) #[] #[]] w fun e w' => e = .returned (.int .i64 (hIdx p l0 0)) ∧ Drawn0 w w' := by
 have hm : l0.length ≤ 9223372036854775807 := Kd.C_max hr0
 have HR0 := Aside0.mk hr0; have HC0 := Aside0.mk hc0; have HP := Aside0.mk hp; clear hr0 hc0 hp
 have hE := Aside0.mk (show hIdx p l0 0 = hIdx p (l0.drop 0) 0 by simp)
 go_enter Tryd.func57, Tryd.ntmps57
 go_wp2
 go_loopg [5, 8] l0.length (fun gk v5 v8 w' => ∃ i : Nat, v8 = .int .i64 i ∧ i ≤ l0.length ∧ l0.length - i ≤ gk ∧ Aside0 (hIdx p l0 0 = hIdx p (l0.drop i) i) ∧ Drawn0 w w')
 case atStart => exact ⟨0, rfl, by omega, by omega, hE, Drawn0.refl _⟩
 case round =>
  clear hE
  obtain ⟨i, rfl, hi, hgk, HE, ⟨m1, rfl⟩⟩ := hrel
  by_cases hlt : i < l0.length
  ·have hx := hIdx_drop p l0 i hlt
   have p101 : 0 ≤ (i : Int) := by omega
   have q101 : (i : Int) < (l0.length : Int) := by omega
   obtain ⟨ad, e, hx101⟩ := Kd.at_int HR0.out i p101 q101
   cases e
   rw [Int.toNat_natCast] at hx101
   have hcall := HP.out (rd l0 i)
   generalize hy : rd l0 i = y at hcall hx hx101
   have B := Aside0.mk hy; clear hy
   cases hq : p y with
   | true =>
    rw [hq] at hcall
    rw [hq, if_pos rfl] at hx
    have HX := Aside0.mk (HE.out.trans hx)
    clear hx hq
    go_wp2_with (go_at_fn g; refine (hcall _).mono ?_; rintro e w' ⟨rfl, ⟨nd, rfl⟩⟩)
    go_ret
    exact ⟨by rw [HX.out]; rfl, by repeat (first | exact Drawn0.refl _ | apply Drawn0.step)⟩
   | false =>
    rw [hq] at hcall
    rw [hq, if_neg zO0_6] at hx
    have HX := Aside0.mk (HE.out.trans hx)
    clear hx hq
    go_wp2_with (go_at_fn g; refine (hcall _).mono ?_; rintro e w' ⟨rfl, ⟨nd, rfl⟩⟩)
    go_roundg (l0.length - (i + 1))
    case measure => omega
    case rel => exact ⟨i + 1, by go_num, by omega, by omega, HX, by repeat (first | exact Drawn0.refl _ | apply Drawn0.step)⟩
  ·have hltz : ¬ (i : Int) < (l0.length : Int) := by omega
   have hi' : i = l0.length := by omega
   have HX := Aside0.mk (HE.out.trans (by rw [hi', List.drop_length]; rfl : hIdx p (l0.drop i) i = -1))
   clear hi'
   go_wp2
   go_ret
   exact ⟨by rw [HX.out]; rfl, by repeat (first | exact Drawn0.refl _ | apply Drawn0.step)⟩



/-! ### slices_ContainsFunc_int_int: function 46 -/
set_option maxHeartbeats 8000000 in
theorem hContainsFunc (g : Nat) (p : Int → Bool) (hp : hGives g p) (eg : ∀ args w, (callFunc g args).run Tryd.prog w = .ok (.enter g args) w) (A0 : Option Addr) (c0 : Nat) (l0 : List Int) (w : World) (hr0 : Kd.C (Kd.int .i64) w A0 l0.length l0) (hc0 : l0.length ≤ c0) :
  Calls Tryd.prog 46 #[.slice A0 l0.length c0, .func (.func g) #[] #[]] w fun e w' => e = .returned (.bool (l0.any p)) ∧ Drawn0 w w' := by
 have HB := Aside0.mk (hIdx_any p l0 0)
 have h := hIndexFunc g p hp eg A0 c0 l0
 go_enter Tryd.func46, Tryd.ntmps46
 go_wp2_with (go_at_call 57; refine (h _ hr0 hc0).mono ?_; rintro e w' ⟨rfl, ⟨nd, rfl⟩⟩)
 go_ret
 exact ⟨by rw [← HB.out]; rfl, by repeat (first | exact Drawn0.refl _ | apply Drawn0.step)⟩



/-! ### impl_within: function 48 -/
def impl_within.f (a0 : Int) (a1 : Int) (a2 : Int) : Option (Bool) := if a0 ≥ a1 then (some (decide (a0 ≤ a2))) else (some false)
set_option maxHeartbeats 8000000 in
set_option maxRecDepth 100000 in
theorem impl_within.calls (a0 : Int) (a1 : Int) (a2 : Int) (r : Bool) (w : World) (h : impl_within.f a0 a1 a2 = some r) :
  Calls Tryd.prog 48 #[.int .i64 a0, .int .i64 a1, .int .i64 a2] w fun e w' => e = .returned (.bool r) ∧ Drawn0 w w' := by
 have H : (if a0 ≥ a1 then (some (decide (a0 ≤ a2))) else (some false)) = some r := h
 clear h
 by_cases c4 : a0 ≥ a1
 ·rw [if_pos c4] at H
  have c4b0 : decide (a1 ≤ a0) = true := decide_eq_true c4; clear c4
  obtain rfl := Option.some.inj H
  go_enter Tryd.func48, Tryd.ntmps48
  go_wp2
  go_ret
  exact ⟨by first | rfl | (simp; done) | (simp [*]; done), by repeat (first | exact Drawn0.refl _ | apply Drawn0.step)⟩
 ·rw [if_neg c4] at H
  have c4b0 : decide (a1 ≤ a0) = false := decide_eq_false c4; clear c4
  obtain rfl := Option.some.inj H
  go_enter Tryd.func48, Tryd.ntmps48
  go_wp2
  go_ret
  exact ⟨by first | rfl | (simp; done) | (simp [*]; done), by repeat (first | exact Drawn0.refl _ | apply Drawn0.step)⟩


/-! ### impl_areStaffs_1: function 47 -/
def impl_areStaffs_1.f (a0 : Int) : Option (Bool) := (impl_within.f a0 1 100).bind fun t101 => (some (!t101))
set_option maxHeartbeats 8000000 in
set_option maxRecDepth 100000 in
theorem impl_areStaffs_1.calls (a0 : Int) (r : Bool) (w : World) (h : impl_areStaffs_1.f a0 = some r) :
  Calls Tryd.prog 47 #[.int .i64 a0] w fun e w' => e = .returned (.bool r) ∧ Drawn0 w w' := by
 have H : ((impl_within.f a0 1 100).bind fun t101 => (some (!t101))) = some r := h
 clear h; replace H := Option.bind_eq_some_iff.mp H; obtain ⟨t101, A20, H⟩ := H
 replace H : (some (!t101)) = some r := H
 have A2 := Aside0.mk A20; clear A20
 obtain rfl := Option.some.inj H
 go_enter Tryd.func47, Tryd.ntmps47
 go_wp2_with (first | ((with_reducible refine gate_callee (f := 48) rfl ?_); refine zG (some 4) Tryd.func48 #[.int .i64 a0, .int .i64 1, .int .i64 100] ?_; (with_reducible refine (impl_within.calls a0 1 100 t101 _ A2.out).mono ?_); rintro e w' ⟨rfl, ⟨nd, rfl⟩⟩; refine ⟨_, rfl, ?_⟩))
 go_ret
 exact ⟨by first | rfl | (simp; done) | (simp [*]; done), by repeat (first | exact Drawn0.refl _ | apply Drawn0.step)⟩


/-! ### impl_areStaffs: function 34 -/
def impl_areStaffs.f (l0 : List Int) : Option Bool := some (!(l0.any fun n => !(decide (1 ≤ n) && decide (n ≤ 100))))
theorem impl_areStaffs.gives : hGives 47 (fun n => !(decide (1 ≤ n) && decide (n ≤ 100))) := fun x W =>
 (impl_areStaffs_1.calls x _ W (by unfold impl_areStaffs_1.f impl_within.f; by_cases h : x ≥ 1 <;> simp [h])).mono fun _ _ h => h
set_option maxHeartbeats 8000000 in
theorem impl_areStaffs.calls (A0 : Option Addr) (c0 : Nat) (l0 : List Int) (r : Bool) (w : World) (hr0 : Kd.C (Kd.int .i64) w A0 l0.length l0) (hc0 : l0.length ≤ c0) (h : impl_areStaffs.f l0 = some r) :
  Calls Tryd.prog 34 #[.slice A0 l0.length c0] w fun e w' => e = .returned (.bool r) ∧ Drawn0 w w' := by
 have H := Option.some.inj h
 clear h
 have hf := hContainsFunc 47 _ impl_areStaffs.gives (enters_of Tryd.func47 (by kernel_rfl) rfl) A0 c0 l0
 generalize (l0.any fun n => !(decide (1 ≤ n) && decide (n ≤ 100))) = b at H hf
 have HH := Aside0.mk H; clear H
 go_enter Tryd.func34, Tryd.ntmps34
 go_wp2_with (go_at_call 46; refine (hf _ hr0 hc0).mono ?_; rintro e w' ⟨rfl, ⟨nd, rfl⟩⟩)
 go_ret
 exact ⟨by rw [← HH.out]; rfl, by repeat (first | exact Drawn0.refl _ | apply Drawn0.step)⟩



/-! ### impl_areSteps_1: function 49 -/
def impl_areSteps_1.f (a0 : Int) : Option (Bool) := (impl_within.f a0 1 2000).bind fun t102 => (some (!t102))
set_option maxHeartbeats 8000000 in
set_option maxRecDepth 100000 in
theorem impl_areSteps_1.calls (a0 : Int) (r : Bool) (w : World) (h : impl_areSteps_1.f a0 = some r) :
  Calls Tryd.prog 49 #[.int .i64 a0] w fun e w' => e = .returned (.bool r) ∧ Drawn0 w w' := by
 have H : ((impl_within.f a0 1 2000).bind fun t102 => (some (!t102))) = some r := h
 clear h; replace H := Option.bind_eq_some_iff.mp H; obtain ⟨t102, A20, H⟩ := H
 replace H : (some (!t102)) = some r := H
 have A2 := Aside0.mk A20; clear A20
 obtain rfl := Option.some.inj H
 go_enter Tryd.func49, Tryd.ntmps49
 go_wp2_with (first | ((with_reducible refine gate_callee (f := 48) rfl ?_); refine zG (some 4) Tryd.func48 #[.int .i64 a0, .int .i64 1, .int .i64 2000] ?_; (with_reducible refine (impl_within.calls a0 1 2000 t102 _ A2.out).mono ?_); rintro e w' ⟨rfl, ⟨nd, rfl⟩⟩; refine ⟨_, rfl, ?_⟩))
 go_ret
 exact ⟨by first | rfl | (simp; done) | (simp [*]; done), by repeat (first | exact Drawn0.refl _ | apply Drawn0.step)⟩


/-! ### impl_areSteps: function 35 -/
def impl_areSteps.f (l0 : List Int) : Option Bool := some (!(l0.any fun n => !(decide (1 ≤ n) && decide (n ≤ 2000))))
theorem impl_areSteps.gives : hGives 49 (fun n => !(decide (1 ≤ n) && decide (n ≤ 2000))) := fun x W =>
 (impl_areSteps_1.calls x _ W (by unfold impl_areSteps_1.f impl_within.f; by_cases h : x ≥ 1 <;> simp [h])).mono fun _ _ h => h
set_option maxHeartbeats 8000000 in
theorem impl_areSteps.calls (A0 : Option Addr) (c0 : Nat) (l0 : List Int) (r : Bool) (w : World) (hr0 : Kd.C (Kd.int .i64) w A0 l0.length l0) (hc0 : l0.length ≤ c0) (h : impl_areSteps.f l0 = some r) :
  Calls Tryd.prog 35 #[.slice A0 l0.length c0] w fun e w' => e = .returned (.bool r) ∧ Drawn0 w w' := by
 have H := Option.some.inj h
 clear h
 have hf := hContainsFunc 49 _ impl_areSteps.gives (enters_of Tryd.func49 (by kernel_rfl) rfl) A0 c0 l0
 generalize (l0.any fun n => !(decide (1 ≤ n) && decide (n ≤ 2000))) = b at H hf
 have HH := Aside0.mk H; clear H
 go_enter Tryd.func35, Tryd.ntmps35
 go_wp2_with (go_at_call 46; refine (hf _ hr0 hc0).mono ?_; rintro e w' ⟨rfl, ⟨nd, rfl⟩⟩)
 go_ret
 exact ⟨by rw [← HH.out]; rfl, by repeat (first | exact Drawn0.refl _ | apply Drawn0.step)⟩



/-! ### impl_IsIsland: function 12 -/
def impl_IsIsland.f (a0_0 : Int) (a0_1 : Int) (a0_2 : Int) (a0_3 : Int) : Option (Bool) := (impl_areStaffs.f (([a0_0] : List Int))).bind fun t107 => (if t107 = true then ((impl_areSteps.f (([a0_1, a0_2, a0_3] : List Int))).bind fun t111 => (if t111 = true then (some (decide (a0_2 < a0_3))) else (some false))) else (some false))
set_option maxHeartbeats 8000000 in
set_option maxRecDepth 100000 in
theorem impl_IsIsland.calls (a0_0 : Int) (a0_1 : Int) (a0_2 : Int) (a0_3 : Int) (r : Bool) (w : World) (h : impl_IsIsland.f a0_0 a0_1 a0_2 a0_3 = some r) :
  Calls Tryd.prog 12 #[.agg #[.int .i64 a0_0, .int .i64 a0_1, .int .i64 a0_2, .int .i64 a0_3]] w fun e w' => e = .returned (.bool r) ∧ Below w.heap.size w w' := by
 have hu23 := Tryd.underlying23
 have HB := Aside0.mk (Below.refl w.heap.size w)
 have H : ((impl_areStaffs.f (([a0_0] : List Int))).bind fun t107 => (if t107 = true then ((impl_areSteps.f (([a0_1, a0_2, a0_3] : List Int))).bind fun t111 => (if t111 = true then (some (decide (a0_2 < a0_3))) else (some false))) else (some false))) = some r := h
 clear h
 obtain ⟨y104, hy104⟩ : ∃ y_ : List Int, y_ = (([a0_0] : List Int)) := ⟨_, rfl⟩
 replace H : ((impl_areStaffs.f y104).bind fun t107 => (if t107 = true then ((impl_areSteps.f (([a0_1, a0_2, a0_3] : List Int))).bind fun t111 => (if t111 = true then (some (decide (a0_2 < a0_3))) else (some false))) else (some false))) = some r := by first | (rw [hy104]; with_reducible exact H) | (have H2_ := (Option.bind_some _ _).symm.trans H; rw [hy104]; with_reducible exact H2_) | (have H2_ := (Option.bind_some _ _).symm.trans H; with_reducible exact H2_) | with_reducible exact H | (rw [hy104]; exact H) | exact H
 have Ny104 := Aside0.mk hy104; clear hy104; replace H := Option.bind_eq_some_iff.mp H; obtain ⟨t107, A20, H⟩ := H; (try dsimp only at H); have A2 := Aside0.mk A20; clear A20
 by_cases c3 : t107 = true
 ·subst c3
  rw [if_pos rfl] at H
  obtain ⟨y108, hy108⟩ : ∃ y_ : List Int, y_ = (([a0_1, a0_2, a0_3] : List Int)) := ⟨_, rfl⟩
  replace H : ((impl_areSteps.f y108).bind fun t111 => (if t111 = true then (some (decide (a0_2 < a0_3))) else (some false))) = some r := by first | (rw [hy108]; with_reducible exact H) | (have H2_ := (Option.bind_some _ _).symm.trans H; rw [hy108]; with_reducible exact H2_) | (have H2_ := (Option.bind_some _ _).symm.trans H; with_reducible exact H2_) | with_reducible exact H | (rw [hy108]; exact H) | exact H
  have Ny108 := Aside0.mk hy108; clear hy108; replace H := Option.bind_eq_some_iff.mp H; obtain ⟨t111, A40, H⟩ := H
  replace H : (if t111 = true then (some (decide (a0_2 < a0_3))) else (some false)) = some r := H
  have A4 := Aside0.mk A40; clear A40
  by_cases c5 : t111 = true
  ·subst c5
   rw [if_pos rfl] at H
   obtain rfl := Option.some.inj H
   go_enter Tryd.func12, Tryd.ntmps12
   go_wp2_with (first | ((with_reducible refine gate_dst (N := 1) rfl ?_); (try (refine gate_guard (by rfl) ?_; dsimp only)); refine zE 1 #[.int .i64 a0_0, .int .i64 a0_1, .int .i64 a0_2, .int .i64 a0_3] 23 ?_; intro gb103 hg w6 hbox hb; have BK103 := Aside0.mk (hbox); have GW103 := zg HB hg; have GE103 := GW103; replace HB := zh HB hb; clear hb hbox hg; obtain ⟨_, _, _, _, _, _, _, _⟩ := zc4 BK103) | ((with_reducible refine gate_dst (N := 5) rfl ?_); (try (refine gate_guard (by rfl) ?_; dsimp only)); refine Kd.R_lit (Kd.int .i64) _ 3 ?hg (N := 5) ?hd (xs := ([a0_0] : List Int)) (inner := [.int .i64 a0_0]) (ok := fun _ => True) (okp := fun _ => True) ?hr ?hp (fun _ hk => hk) trivial (Below.refl _ _) (Nat.le_refl _) zO0_6 ?_; (case hd => rfl); (case hg => rfl); (case hr => first | (go_simp; done) | (go_simp; rfl)); (case hp => exact (Reps.one (show Kd.M (Kd.int .i64) _ _ _ a0_0 [.int .i64 a0_0] from rfl) (Reps.none _ _))); intro v105 w8 ho9 hb hg_ hnew_; clear hg_ hnew_; (first | rw [← Ny104.out] at ho9 | (simp only [Int.reduceToNat] at ho9; rw [← Ny104.out] at ho9)); have HO106 := Aside0.mk (Kd.R_lower ho9 (below_size (zy HB))); replace BK103 := zb BK103 hb; replace HB := zh HB hb; clear hb ho9; obtain ⟨Ao10, co10, eo10⟩ := Kd.R_slice HO106.out; subst eo10) | ((with_reducible refine gate_callee (f := 34) rfl ?_); refine zG (some 6) Tryd.func34 #[.slice Ao10 y104.length co10] ?_; (with_reducible refine (impl_areStaffs.calls _ _ y104 true _ ?side1 ?side2 A2.out).mono ?_); (case side1 => repeat (first | exact (Kd.R_reads' HO106.out).2.2 | (with_reducible refine Kd.C_alloc ?_ _) | (with_reducible refine Kd.C_drewN ?_ _) | (with_reducible refine Kd.C_drew ?_))); (case side2 => exact (Kd.R_reads' HO106.out).2.1); rintro e w' ⟨rfl, ⟨nd, rfl⟩⟩; refine ⟨_, rfl, ?_⟩; obtain ⟨_, _, _, _, _, _, _, _⟩ := zc4 BK103) | ((with_reducible refine gate_dst (N := 14) rfl ?_); (try (refine gate_guard (by rfl) ?_; dsimp only)); refine Kd.R_lit (Kd.int .i64) _ 3 ?hg (N := 14) ?hd (xs := ([a0_1, a0_2, a0_3] : List Int)) (inner := [.int .i64 a0_1, .int .i64 a0_2, .int .i64 a0_3]) (ok := fun _ => True) (okp := fun _ => True) ?hr ?hp (fun _ hk => hk) trivial (Below.refl _ _) (Nat.le_refl _) zO0_6 ?_; (case hd => rfl); (case hg => rfl); (case hr => first | (go_simp; done) | (go_simp; rfl)); (case hp => exact (Reps.one (show Kd.M (Kd.int .i64) _ _ _ a0_1 [.int .i64 a0_1] from rfl) (Reps.one (show Kd.M (Kd.int .i64) _ _ _ a0_2 [.int .i64 a0_2] from rfl) (Reps.one (show Kd.M (Kd.int .i64) _ _ _ a0_3 [.int .i64 a0_3] from rfl) (Reps.none _ _))))); intro v109 w12 ho13 hb hg_ hnew_; clear hg_ hnew_; (first | rw [← Ny108.out] at ho13 | (simp only [Int.reduceToNat] at ho13; rw [← Ny108.out] at ho13)); have n0_ := Aside0.mk (Kd.R_elder' (zs HO106) (Kd.R_base ho13) hb); have HO110 := Aside0.mk (Kd.R_lower (Kd.R_new' ho13 (Kd.R_lt (zs HO106))) (below_size (zy HB))); replace BK103 := zb BK103 hb; replace HB := zh HB hb; clear HO106; have HO106 := n0_; clear n0_; clear hb ho13; obtain ⟨Ao14, co14, eo14⟩ := Kd.R_slice HO110.out; subst eo14) | (go_at_call 35; (with_reducible refine (impl_areSteps.calls _ _ y108 true _ ?side1 ?side2 A4.out).mono ?_); (case side1 => repeat (first | exact (Kd.R_reads' HO110.out).2.2 | (with_reducible refine Kd.C_alloc ?_ _) | (with_reducible refine Kd.C_drewN ?_ _) | (with_reducible refine Kd.C_drew ?_))); (case side2 => exact (Kd.R_reads' HO110.out).2.1); rintro e w' ⟨rfl, ⟨nd, rfl⟩⟩; obtain ⟨_, _, _, _, _, _, _, _⟩ := zc4 BK103))
   go_ret
   exact ⟨zt, zy HB⟩
  ·replace c5 := Bool.eq_false_iff.mpr c5
   subst c5; rw [if_neg (show ¬ (false = true) by decide)] at H
   obtain rfl := Option.some.inj H
   go_enter Tryd.func12, Tryd.ntmps12
   go_wp2_with (first | ((with_reducible refine gate_dst (N := 1) rfl ?_); (try (refine gate_guard (by rfl) ?_; dsimp only)); refine zE 1 #[.int .i64 a0_0, .int .i64 a0_1, .int .i64 a0_2, .int .i64 a0_3] 23 ?_; intro gb103 hg w16 hbox hb; have BK103 := Aside0.mk (hbox); have GW103 := zg HB hg; have GE103 := GW103; replace HB := zh HB hb; clear hb hbox hg; obtain ⟨_, _, _, _, _, _, _, _⟩ := zc4 BK103) | ((with_reducible refine gate_dst (N := 5) rfl ?_); (try (refine gate_guard (by rfl) ?_; dsimp only)); refine Kd.R_lit (Kd.int .i64) _ 3 ?hg (N := 5) ?hd (xs := ([a0_0] : List Int)) (inner := [.int .i64 a0_0]) (ok := fun _ => True) (okp := fun _ => True) ?hr ?hp (fun _ hk => hk) trivial (Below.refl _ _) (Nat.le_refl _) zO0_6 ?_; (case hd => rfl); (case hg => rfl); (case hr => first | (go_simp; done) | (go_simp; rfl)); (case hp => exact (Reps.one (show Kd.M (Kd.int .i64) _ _ _ a0_0 [.int .i64 a0_0] from rfl) (Reps.none _ _))); intro v105 w18 ho19 hb hg_ hnew_; clear hg_ hnew_; (first | rw [← Ny104.out] at ho19 | (simp only [Int.reduceToNat] at ho19; rw [← Ny104.out] at ho19)); have HO106 := Aside0.mk (Kd.R_lower ho19 (below_size (zy HB))); replace BK103 := zb BK103 hb; replace HB := zh HB hb; clear hb ho19; obtain ⟨Ao20, co20, eo20⟩ := Kd.R_slice HO106.out; subst eo20) | ((with_reducible refine gate_callee (f := 34) rfl ?_); refine zG (some 6) Tryd.func34 #[.slice Ao20 y104.length co20] ?_; (with_reducible refine (impl_areStaffs.calls _ _ y104 true _ ?side1 ?side2 A2.out).mono ?_); (case side1 => repeat (first | exact (Kd.R_reads' HO106.out).2.2 | (with_reducible refine Kd.C_alloc ?_ _) | (with_reducible refine Kd.C_drewN ?_ _) | (with_reducible refine Kd.C_drew ?_))); (case side2 => exact (Kd.R_reads' HO106.out).2.1); rintro e w' ⟨rfl, ⟨nd, rfl⟩⟩; refine ⟨_, rfl, ?_⟩; obtain ⟨_, _, _, _, _, _, _, _⟩ := zc4 BK103) | ((with_reducible refine gate_dst (N := 14) rfl ?_); (try (refine gate_guard (by rfl) ?_; dsimp only)); refine Kd.R_lit (Kd.int .i64) _ 3 ?hg (N := 14) ?hd (xs := ([a0_1, a0_2, a0_3] : List Int)) (inner := [.int .i64 a0_1, .int .i64 a0_2, .int .i64 a0_3]) (ok := fun _ => True) (okp := fun _ => True) ?hr ?hp (fun _ hk => hk) trivial (Below.refl _ _) (Nat.le_refl _) zO0_6 ?_; (case hd => rfl); (case hg => rfl); (case hr => first | (go_simp; done) | (go_simp; rfl)); (case hp => exact (Reps.one (show Kd.M (Kd.int .i64) _ _ _ a0_1 [.int .i64 a0_1] from rfl) (Reps.one (show Kd.M (Kd.int .i64) _ _ _ a0_2 [.int .i64 a0_2] from rfl) (Reps.one (show Kd.M (Kd.int .i64) _ _ _ a0_3 [.int .i64 a0_3] from rfl) (Reps.none _ _))))); intro v109 w22 ho23 hb hg_ hnew_; clear hg_ hnew_; (first | rw [← Ny108.out] at ho23 | (simp only [Int.reduceToNat] at ho23; rw [← Ny108.out] at ho23)); have n0_ := Aside0.mk (Kd.R_elder' (zs HO106) (Kd.R_base ho23) hb); have HO110 := Aside0.mk (Kd.R_lower (Kd.R_new' ho23 (Kd.R_lt (zs HO106))) (below_size (zy HB))); replace BK103 := zb BK103 hb; replace HB := zh HB hb; clear HO106; have HO106 := n0_; clear n0_; clear hb ho23; obtain ⟨Ao24, co24, eo24⟩ := Kd.R_slice HO110.out; subst eo24) | (go_at_call 35; (with_reducible refine (impl_areSteps.calls _ _ y108 false _ ?side1 ?side2 A4.out).mono ?_); (case side1 => repeat (first | exact (Kd.R_reads' HO110.out).2.2 | (with_reducible refine Kd.C_alloc ?_ _) | (with_reducible refine Kd.C_drewN ?_ _) | (with_reducible refine Kd.C_drew ?_))); (case side2 => exact (Kd.R_reads' HO110.out).2.1); rintro e w' ⟨rfl, ⟨nd, rfl⟩⟩))
   go_ret
   exact ⟨zt, zy HB⟩
 ·replace c3 := Bool.eq_false_iff.mpr c3
  subst c3; rw [if_neg (show ¬ (false = true) by decide)] at H
  obtain rfl := Option.some.inj H
  go_enter Tryd.func12, Tryd.ntmps12
  go_wp2_with (first | ((with_reducible refine gate_dst (N := 1) rfl ?_); (try (refine gate_guard (by rfl) ?_; dsimp only)); refine zE 1 #[.int .i64 a0_0, .int .i64 a0_1, .int .i64 a0_2, .int .i64 a0_3] 23 ?_; intro gb103 hg w25 hbox hb; have BK103 := Aside0.mk (hbox); have GW103 := zg HB hg; have GE103 := GW103; replace HB := zh HB hb; clear hb hbox hg; obtain ⟨_, _, _, _, _, _, _, _⟩ := zc4 BK103) | ((with_reducible refine gate_dst (N := 5) rfl ?_); (try (refine gate_guard (by rfl) ?_; dsimp only)); refine Kd.R_lit (Kd.int .i64) _ 3 ?hg (N := 5) ?hd (xs := ([a0_0] : List Int)) (inner := [.int .i64 a0_0]) (ok := fun _ => True) (okp := fun _ => True) ?hr ?hp (fun _ hk => hk) trivial (Below.refl _ _) (Nat.le_refl _) zO0_6 ?_; (case hd => rfl); (case hg => rfl); (case hr => first | (go_simp; done) | (go_simp; rfl)); (case hp => exact (Reps.one (show Kd.M (Kd.int .i64) _ _ _ a0_0 [.int .i64 a0_0] from rfl) (Reps.none _ _))); intro v105 w27 ho28 hb hg_ hnew_; clear hg_ hnew_; (first | rw [← Ny104.out] at ho28 | (simp only [Int.reduceToNat] at ho28; rw [← Ny104.out] at ho28)); have HO106 := Aside0.mk (Kd.R_lower ho28 (below_size (zy HB))); replace BK103 := zb BK103 hb; replace HB := zh HB hb; clear hb ho28; obtain ⟨Ao29, co29, eo29⟩ := Kd.R_slice HO106.out; subst eo29) | ((with_reducible refine gate_callee (f := 34) rfl ?_); refine zG (some 6) Tryd.func34 #[.slice Ao29 y104.length co29] ?_; (with_reducible refine (impl_areStaffs.calls _ _ y104 false _ ?side1 ?side2 A2.out).mono ?_); (case side1 => repeat (first | exact (Kd.R_reads' HO106.out).2.2 | (with_reducible refine Kd.C_alloc ?_ _) | (with_reducible refine Kd.C_drewN ?_ _) | (with_reducible refine Kd.C_drew ?_))); (case side2 => exact (Kd.R_reads' HO106.out).2.1); rintro e w' ⟨rfl, ⟨nd, rfl⟩⟩; refine ⟨_, rfl, ?_⟩))
  go_ret
  exact ⟨zt, zy HB⟩


/-! ### impl_gcd: function 43 -/
def impl_gcd.l0 : Nat → Int → Int → Option (Int)
 | 0, _, _ => none
 | k + 1, x0, x1 => if x1 = 0 then (some (mx x0 (wrap64 (-x0)))) else (impl_gcd.l0 k x1 (Int.tmod x0 x1))
def impl_gcd.f (k : Nat) (a0 : Int) (a1 : Int) : Option (Int) := impl_gcd.l0 k a0 a1
set_option maxHeartbeats 8000000 in
set_option maxRecDepth 100000 in
theorem impl_gcd.calls (k : Nat) (a0 : Int) (a1 : Int) (r : Int) (w : World) (h : impl_gcd.f k a0 a1 = some r) :
  Calls Tryd.prog 43 #[.int .i64 a0, .int .i64 a1] w fun e w' => e = .returned (.int .i64 r) ∧ Below w.heap.size w w' := by
 have HB := Aside0.mk (Below.refl w.heap.size w)
 have H : (impl_gcd.l0 k a0 a1) = some r := h
 clear h; have H' := Aside0.mk H; clear H
 go_enter Tryd.func43, Tryd.ntmps43
 go_wp2
 repeat (go_quiet (fail); try go_wp2)
 go_loopg [0, 1] k (fun kq v0 v1 w' => ∃ (x0_1 : Int) (x1_1 : Int), v0 = .int .i64 x0_1 ∧ v1 = .int .i64 x1_1 ∧ Aside0 (impl_gcd.l0 kq x0_1 x1_1 = some r) ∧ Aside0 (kq ≤ k) ∧ Aside0 (Below w.heap.size w w'))
 case atStart => exact ⟨(a0), (a1), zu, zu, H', ⟨Nat.le_refl _⟩, ⟨zy HB⟩⟩
 case round =>
  clear H'
  obtain ⟨x0_1, x1_1, rfl, rfl, HA, HK1, HB⟩ := hrel
  cases gk with
  | zero => exact absurd HA.out (by simp [impl_gcd.l0])
  | succ k1 =>
   have H := HA.out; clear HA; simp only [impl_gcd.l0] at H
   by_cases c3 : x1_1 = 0
   ·rw [if_pos c3] at H
    have c3b0 : (x1_1 == 0) = true := beq_iff_eq.mpr c3
    have c3b1 : (x1_1 != 0) = false := bne_eq_false_iff_eq.mpr c3
    clear c3
    obtain ⟨ji4, hji4⟩ : ∃ j_ : Int, (mx x0_1 (wrap64 (-x0_1))) = j_ := ⟨_, rfl⟩
    replace H : (some ji4) = some r := by first | (rw [hji4] at H; exact H) | (simp only [hji4] at H ⊢; exact H)
    have hji4_ : (if x0_1 < (wrap64 (-x0_1)) then (wrap64 (-x0_1)) else x0_1) = ji4 := hji4
    obtain rfl := Option.some.inj H
    go_wp2
    repeat (go_quiet (fail); try go_wp2)
    go_ret
    exact ⟨by first | rfl | (simp [errW_none, errW_some] <;> rfl) | (simp only [← hji4]; first | rfl | (simp [errW_none, errW_some] <;> rfl)) | (simp [*, errW_none, errW_some] <;> rfl), zy HB⟩
   ·rw [if_neg c3] at H
    have c3b0 : (x1_1 == 0) = false := beq_eq_false_iff_ne.mpr c3
    have c3b1 : (x1_1 != 0) = true := bne_iff_ne.mpr c3
    have H' := Aside0.mk H; clear H
    go_wp2
    repeat (go_quiet (fail); try go_wp2)
    go_roundg k1
    case measure => have := HK1.out; omega
    case rel => exact ⟨(x1_1), (Int.tmod x0_1 x1_1), zu, zu, H', ⟨by have := HK1.out; omega⟩, ⟨zy HB⟩⟩


/-! ### impl_fraction: function 27 -/
def impl_fraction.f (k : Nat) (a0 : Int) (a1 : Int) : Option (Int × Int × Bool) := (impl_gcd.f k a0 a1).bind fun t112 => (if t112 = 0 then (none) else (some (wrap64 (Int.tdiv a0 t112), wrap64 (Int.tdiv a1 t112), true)))
set_option maxHeartbeats 8000000 in
set_option maxRecDepth 100000 in
theorem impl_fraction.calls (k : Nat) (a0 : Int) (a1 : Int) (r1 : Int) (r2 : Int) (r3 : Bool) (w : World) (h : impl_fraction.f k a0 a1 = some (r1, r2, r3)) :
  Calls Tryd.prog 27 #[.int .i64 a0, .int .i64 a1] w fun e w' => e = .returned (.tuple #[.int .i64 r1, .int .i64 r2, .bool r3]) ∧ Below w.heap.size w w' := by
 have HB := Aside0.mk (Below.refl w.heap.size w)
 have H : ((impl_gcd.f k a0 a1).bind fun t112 => (if t112 = 0 then (none) else (some (wrap64 (Int.tdiv a0 t112), wrap64 (Int.tdiv a1 t112), true)))) = some (r1, r2, r3) := h
 clear h; replace H := Option.bind_eq_some_iff.mp H; obtain ⟨t112, A30, H⟩ := H
 replace H : (if t112 = 0 then (none) else (some (wrap64 (Int.tdiv a0 t112), wrap64 (Int.tdiv a1 t112), true))) = some (r1, r2, r3) := H
 have A3 := Aside0.mk A30; clear A30
 by_cases c4 : t112 = 0
 ·rw [if_pos c4] at H
  exact absurd H zO0_6
 ·rw [if_neg c4] at H
  have c4b0 : (t112 == 0) = false := beq_eq_false_iff_ne.mpr c4
  have c4b1 : (t112 != 0) = true := bne_iff_ne.mpr c4
  simp only [Option.some.injEq, Prod.mk.injEq] at H; obtain ⟨rfl, rfl, rfl⟩ := H
  go_enter Tryd.func27, Tryd.ntmps27
  go_wp2_with (first | (go_at_call 43; (with_reducible refine (impl_gcd.calls k a0 a1 t112 _ A3.out).mono ?_); rintro e w5 ⟨rfl, hb⟩; replace HB := zh HB hb; clear hb))
  repeat (go_quiet (first | (go_at_call 43; (with_reducible refine (impl_gcd.calls k a0 a1 t112 _ A3.out).mono ?_); rintro e w5 ⟨rfl, hb⟩; replace HB := zh HB hb; clear hb)); try go_wp2_with (first | (go_at_call 43; (with_reducible refine (impl_gcd.calls k a0 a1 t112 _ A3.out).mono ?_); rintro e w5 ⟨rfl, hb⟩; replace HB := zh HB hb; clear hb)))
  go_ret3
  exact ⟨zt, zy HB⟩


/-! ### impl_IslandHeight: function 4 -/
def impl_IslandHeight.f (k : Nat) (a0_0 : Int) (a0_1 : Int) (a0_2 : Int) (a0_3 : Int) : Option (Int × Int × Bool) := (impl_IsIsland.f a0_0 a0_1 a0_2 a0_3).bind fun t114 => (if t114 = true then ((impl_fraction.f k (wrap64 ((wrap64 (a0_0 * a0_1)) + (wrap64 (a0_0 * (wrap64 (a0_3 - a0_2)))))) (wrap64 (a0_3 - a0_2))).bind fun bt115 => (some (bt115.1, bt115.2.1, bt115.2.2))) else (some (0, 0, false)))
set_option maxHeartbeats 8000000 in
set_option maxRecDepth 100000 in
theorem impl_IslandHeight.calls (k : Nat) (a0_0 : Int) (a0_1 : Int) (a0_2 : Int) (a0_3 : Int) (r1 : Int) (r2 : Int) (r3 : Bool) (w : World) (h : impl_IslandHeight.f k a0_0 a0_1 a0_2 a0_3 = some (r1, r2, r3)) :
  Calls Tryd.prog 4 #[.agg #[.int .i64 a0_0, .int .i64 a0_1, .int .i64 a0_2, .int .i64 a0_3]] w fun e w' => e = .returned (.tuple #[.int .i64 r1, .int .i64 r2, .bool r3]) ∧ Below w.heap.size w w' := by
 have hu23 := Tryd.underlying23
 have HB := Aside0.mk (Below.refl w.heap.size w)
 have H : ((impl_IsIsland.f a0_0 a0_1 a0_2 a0_3).bind fun t114 => (if t114 = true then ((impl_fraction.f k (wrap64 ((wrap64 (a0_0 * a0_1)) + (wrap64 (a0_0 * (wrap64 (a0_3 - a0_2)))))) (wrap64 (a0_3 - a0_2))).bind fun bt115 => (some (bt115.1, bt115.2.1, bt115.2.2))) else (some (0, 0, false)))) = some (r1, r2, r3) := h
 clear h; replace H := Option.bind_eq_some_iff.mp H; obtain ⟨t114, A20, H⟩ := H; (try dsimp only at H); have A2 := Aside0.mk A20; clear A20
 by_cases c3 : t114 = true
 ·subst c3
  rw [if_pos rfl] at H; replace H := Option.bind_eq_some_iff.mp H; obtain ⟨⟨t115, t116, t117⟩, A40, H⟩ := H
  replace H : (some (t115, t116, t117)) = some (r1, r2, r3) := H
  have A4 := Aside0.mk A40; clear A40; simp only [Option.some.injEq, Prod.mk.injEq] at H; obtain ⟨rfl, rfl, rfl⟩ := H
  go_enter Tryd.func4, Tryd.ntmps4
  go_wp2_with (first | ((with_reducible refine gate_dst (N := 1) rfl ?_); refine zE 1 #[.int .i64 a0_0, .int .i64 a0_1, .int .i64 a0_2, .int .i64 a0_3] 23 ?_; intro gb113 hg w5 hbox hb; have BK113 := Aside0.mk (hbox); have GW113 := zg HB hg; have GE113 := GW113; replace HB := zh HB hb; clear hb hbox hg; obtain ⟨_, _, _, _, _, _, _, _⟩ := zc4 BK113) | ((with_reducible refine gate_callee (f := 12) rfl ?_); refine zG (some 7) Tryd.func12 #[.agg #[.int .i64 a0_0, .int .i64 a0_1, .int .i64 a0_2, .int .i64 a0_3]] ?_; (with_reducible refine (impl_IsIsland.calls a0_0 a0_1 a0_2 a0_3 true _ A2.out).mono ?_); rintro e w7 ⟨rfl, hb⟩; refine ⟨_, rfl, ?_⟩; replace BK113 := zb BK113 hb; replace HB := zh HB hb; clear hb; obtain ⟨_, _, _, _, _, _, _, _⟩ := zc4 BK113) | ((with_reducible refine gate_callee (f := 27) rfl ?_); refine zG (some 25) Tryd.func27 #[.int .i64 (wrap64 ((wrap64 (a0_0 * a0_1)) + (wrap64 (a0_0 * (wrap64 (a0_3 - a0_2)))))), .int .i64 (wrap64 (a0_3 - a0_2))] ?_; (with_reducible refine (impl_fraction.calls k (wrap64 ((wrap64 (a0_0 * a0_1)) + (wrap64 (a0_0 * (wrap64 (a0_3 - a0_2)))))) (wrap64 (a0_3 - a0_2)) t115 t116 t117 _ A4.out).mono ?_); rintro e w9 ⟨rfl, hb⟩; refine ⟨_, rfl, ?_⟩; replace BK113 := zb BK113 hb; replace HB := zh HB hb; clear hb))
  go_ret3
  exact ⟨zt, zy HB⟩
 ·replace c3 := Bool.eq_false_iff.mpr c3
  subst c3; rw [if_neg (show ¬ (false = true) by decide)] at H; simp only [Option.some.injEq, Prod.mk.injEq] at H; obtain ⟨rfl, rfl, rfl⟩ := H
  go_enter Tryd.func4, Tryd.ntmps4
  go_wp2_with (first | ((with_reducible refine gate_dst (N := 1) rfl ?_); refine zE 1 #[.int .i64 a0_0, .int .i64 a0_1, .int .i64 a0_2, .int .i64 a0_3] 23 ?_; intro gb113 hg w10 hbox hb; have BK113 := Aside0.mk (hbox); have GW113 := zg HB hg; have GE113 := GW113; replace HB := zh HB hb; clear hb hbox hg; obtain ⟨_, _, _, _, _, _, _, _⟩ := zc4 BK113) | ((with_reducible refine gate_callee (f := 12) rfl ?_); refine zG (some 7) Tryd.func12 #[.agg #[.int .i64 a0_0, .int .i64 a0_1, .int .i64 a0_2, .int .i64 a0_3]] ?_; (with_reducible refine (impl_IsIsland.calls a0_0 a0_1 a0_2 a0_3 false _ A2.out).mono ?_); rintro e w12 ⟨rfl, hb⟩; refine ⟨_, rfl, ?_⟩; replace BK113 := zb BK113 hb; replace HB := zh HB hb; clear hb))
  go_ret3
  exact ⟨zt, zy HB⟩


/-! ### spec_l1In: function 52 -/
def spec_l1In.f (a0 : Int) (a1 : Int) (a2 : Int) : Option (Bool) := if a0 ≥ a1 then (some (decide (a0 ≤ a2))) else (some false)
set_option maxHeartbeats 8000000 in
set_option maxRecDepth 100000 in
theorem spec_l1In.calls (a0 : Int) (a1 : Int) (a2 : Int) (r : Bool) (w : World) (h : spec_l1In.f a0 a1 a2 = some r) :
  Calls Tryd.prog 52 #[.int .i64 a0, .int .i64 a1, .int .i64 a2] w fun e w' => e = .returned (.bool r) ∧ Drawn0 w w' := by
 have H : (if a0 ≥ a1 then (some (decide (a0 ≤ a2))) else (some false)) = some r := h
 clear h
 by_cases c4 : a0 ≥ a1
 ·rw [if_pos c4] at H
  have c4b0 : decide (a1 ≤ a0) = true := decide_eq_true c4; clear c4
  obtain rfl := Option.some.inj H
  go_enter Tryd.func52, Tryd.ntmps52
  go_wp2
  go_ret
  exact ⟨by first | rfl | (simp; done) | (simp [*]; done), by repeat (first | exact Drawn0.refl _ | apply Drawn0.step)⟩
 ·rw [if_neg c4] at H
  have c4b0 : decide (a1 ≤ a0) = false := decide_eq_false c4; clear c4
  obtain rfl := Option.some.inj H
  go_enter Tryd.func52, Tryd.ntmps52
  go_wp2
  go_ret
  exact ⟨by first | rfl | (simp; done) | (simp [*]; done), by repeat (first | exact Drawn0.refl _ | apply Drawn0.step)⟩


/-! ### spec_htStaff: function 39 -/
def spec_htStaff.f (a0 : Int) : Option (Bool) := (spec_l1In.f a0 1 100).bind fun t118 => (some t118)
set_option maxHeartbeats 8000000 in
set_option maxRecDepth 100000 in
theorem spec_htStaff.calls (a0 : Int) (r : Bool) (w : World) (h : spec_htStaff.f a0 = some r) :
  Calls Tryd.prog 39 #[.int .i64 a0] w fun e w' => e = .returned (.bool r) ∧ Drawn0 w w' := by
 have H : ((spec_l1In.f a0 1 100).bind fun t118 => (some t118)) = some r := h
 clear h; replace H := Option.bind_eq_some_iff.mp H; obtain ⟨t118, A20, H⟩ := H
 replace H : (some t118) = some r := H
 have A2 := Aside0.mk A20; clear A20
 obtain rfl := Option.some.inj H
 go_enter Tryd.func39, Tryd.ntmps39
 go_wp2_with (first | ((with_reducible refine gate_callee (f := 52) rfl ?_); refine zG (some 4) Tryd.func52 #[.int .i64 a0, .int .i64 1, .int .i64 100] ?_; (with_reducible refine (spec_l1In.calls a0 1 100 t118 _ A2.out).mono ?_); rintro e w' ⟨rfl, ⟨nd, rfl⟩⟩; refine ⟨_, rfl, ?_⟩))
 go_ret
 exact ⟨by first | rfl | (simp; done) | (simp [*]; done), by repeat (first | exact Drawn0.refl _ | apply Drawn0.step)⟩


/-! ### spec_l1All: function 53 -/
def spec_l1All.l0 : Nat → Int → Int → List Int → Int → Int → Option (Bool)
 | 0, _, _, _, _, _ => none
 | k + 1, x1, x2, x9, x10, x11 => if x11 < x10 then (if 0 ≤ x11 then (if x11 < (x9.length : Int) then ((spec_l1In.f (rd x9 x11) x1 x2).bind fun t120 => (if t120 = true then (spec_l1All.l0 k x1 x2 x9 x10 (wrap64 (x11 + 1))) else (some false))) else (none)) else (none)) else (some true)
def spec_l1All.f (k : Nat) (l0 : List Int) (a1 : Int) (a2 : Int) : Option (Bool) := spec_l1All.l0 k a1 a2 l0 (l0.length : Int) 0
set_option maxHeartbeats 8000000 in
set_option maxRecDepth 100000 in
theorem spec_l1All.calls (k : Nat) (A0 : Option Addr) (c0 : Nat) (l0 : List Int) (a1 : Int) (a2 : Int) (r : Bool) (w : World) (hr0 : Kd.C (Kd.int .i64) w A0 l0.length l0) (hc0 : l0.length ≤ c0) (h : spec_l1All.f k l0 a1 a2 = some r) :
  Calls Tryd.prog 53 #[.slice A0 l0.length c0, .int .i64 a1, .int .i64 a2] w fun e w' => e = .returned (.bool r) ∧ Drawn0 w w' := by
 have HR0 := Aside0.mk hr0; have HC0 := Aside0.mk hc0; clear hr0 hc0
 have H : (spec_l1All.l0 k a1 a2 l0 (l0.length : Int) 0) = some r := h
 clear h; have H' := Aside0.mk H; clear H
 go_enter Tryd.func53, Tryd.ntmps53
 go_wp2
 go_loopg [11] k (fun kq v11 w' => ∃ (x11_1 : Int), v11 = .int .i64 x11_1 ∧ Aside0 (spec_l1All.l0 kq a1 a2 l0 (l0.length : Int) x11_1 = some r) ∧ Aside0 (kq ≤ k) ∧ Drawn0 w w')
 case atStart => exact ⟨(0), zu, H', ⟨Nat.le_refl _⟩, by repeat (first | exact Drawn0.refl _ | apply Drawn0.step)⟩
 case round =>
  clear H'
  obtain ⟨x11_1, rfl, HA, HK1, ⟨m1, rfl⟩⟩ := hrel
  cases gk with
  | zero => exact absurd HA.out (by simp [spec_l1All.l0])
  | succ k1 =>
   have H := HA.out; clear HA; simp only [spec_l1All.l0] at H
   by_cases c4 : x11_1 < (l0.length : Int)
   ·rw [if_pos c4] at H
    have c4b0 : decide (x11_1 < (l0.length : Int)) = true := decide_eq_true c4; clear c4
    by_cases c5 : 0 ≤ x11_1
    ·rw [if_pos c5] at H
     have c5b0 : decide (0 ≤ x11_1) = true := decide_eq_true c5; clear c5
     by_cases c6 : x11_1 < (l0.length : Int)
     ·rw [if_pos c6] at H
      have c6b0 : decide (x11_1 < (l0.length : Int)) = true := decide_eq_true c6; clear c6; replace H := Option.bind_eq_some_iff.mp H; obtain ⟨t120, A70, H⟩ := H
      replace H : (if t120 = true then (spec_l1All.l0 k1 a1 a2 l0 (l0.length : Int) (wrap64 (x11_1 + 1))) else (some false)) = some r := H
      have A7 := Aside0.mk A70; clear A70
      by_cases c8 : t120 = true
      ·subst c8
       rw [if_pos rfl] at H; have H' := Aside0.mk H; clear H
       have p119 : 0 ≤ (x11_1 : Int) := of_decide_eq_true zO0_3
       have q119 : x11_1 < (l0.length : Int) := of_decide_eq_true zO0_3
       obtain ⟨ad119, e119, hx119_0⟩ := Kd.at_int HR0.out x11_1 p119 q119
       cases e119; replace p119 := eq_true p119; replace q119 := eq_true q119
       go_wp2_with (first | ((with_reducible refine gate_callee (f := 52) rfl ?_); refine zG (some 18) Tryd.func52 #[.int .i64 (rd l0 x11_1), .int .i64 a1, .int .i64 a2] ?_; (with_reducible refine (spec_l1In.calls (rd l0 x11_1) a1 a2 true _ A7.out).mono ?_); rintro e w' ⟨rfl, ⟨nd, rfl⟩⟩; refine ⟨_, rfl, ?_⟩))
       go_roundg k1
       case measure => have := HK1.out; omega
       case rel => exact ⟨(wrap64 (x11_1 + 1)), zu, H', ⟨by have := HK1.out; omega⟩, by repeat (first | exact Drawn0.refl _ | apply Drawn0.step)⟩
      ·replace c8 := Bool.eq_false_iff.mpr c8
       subst c8; rw [if_neg (show ¬ (false = true) by decide)] at H
       obtain rfl := Option.some.inj H
       have p119 : 0 ≤ (x11_1 : Int) := of_decide_eq_true zO0_3
       have q119 : x11_1 < (l0.length : Int) := of_decide_eq_true zO0_3
       obtain ⟨ad119, e119, hx119_0⟩ := Kd.at_int HR0.out x11_1 p119 q119
       cases e119; replace p119 := eq_true p119; replace q119 := eq_true q119
       go_wp2_with (first | ((with_reducible refine gate_callee (f := 52) rfl ?_); refine zG (some 18) Tryd.func52 #[.int .i64 (rd l0 x11_1), .int .i64 a1, .int .i64 a2] ?_; (with_reducible refine (spec_l1In.calls (rd l0 x11_1) a1 a2 false _ A7.out).mono ?_); rintro e w' ⟨rfl, ⟨nd, rfl⟩⟩; refine ⟨_, rfl, ?_⟩))
       go_ret
       exact ⟨by first | rfl | (simp; done) | (simp [*]; done), by repeat (first | exact Drawn0.refl _ | apply Drawn0.step)⟩
     ·rw [if_neg c6] at H
      exact absurd H zO0_6
    ·rw [if_neg c5] at H
     exact absurd H zO0_6
   ·rw [if_neg c4] at H
    have c4b0 : decide (x11_1 < (l0.length : Int)) = false := decide_eq_false c4; clear c4
    obtain rfl := Option.some.inj H
    go_wp2
    go_ret
    exact ⟨by first | rfl | (simp; done) | (simp [*]; done), by repeat (first | exact Drawn0.refl _ | apply Drawn0.step)⟩


/-! ### spec_htLong: function 40 -/
def spec_htLong.f (k : Nat) (l0 : List Int) : Option (Bool) := (spec_l1All.f k l0 1 2000).bind fun t121 => (some t121)
set_option maxHeartbeats 8000000 in
set_option maxRecDepth 100000 in
theorem spec_htLong.calls (k : Nat) (A0 : Option Addr) (c0 : Nat) (l0 : List Int) (r : Bool) (w : World) (hr0 : Kd.C (Kd.int .i64) w A0 l0.length l0) (hc0 : l0.length ≤ c0) (h : spec_htLong.f k l0 = some r) :
  Calls Tryd.prog 40 #[.slice A0 l0.length c0] w fun e w' => e = .returned (.bool r) ∧ Drawn0 w w' := by
 have HR0 := Aside0.mk hr0; have HC0 := Aside0.mk hc0; clear hr0 hc0
 have H : ((spec_l1All.f k l0 1 2000).bind fun t121 => (some t121)) = some r := h
 clear h; replace H := Option.bind_eq_some_iff.mp H; obtain ⟨t121, A20, H⟩ := H
 replace H : (some t121) = some r := H
 have A2 := Aside0.mk A20; clear A20
 obtain rfl := Option.some.inj H
 go_enter Tryd.func40, Tryd.ntmps40
 go_wp2_with (first | ((with_reducible refine gate_callee (f := 53) rfl ?_); refine zG (some 4) Tryd.func53 #[.slice A0 l0.length c0, .int .i64 1, .int .i64 2000] ?_; (with_reducible refine (spec_l1All.calls k _ _ l0 1 2000 t121 _ ?side1 ?side2 A2.out).mono ?_); (case side1 => repeat (first | exact HR0.out | (with_reducible refine Kd.C_alloc ?_ _) | (with_reducible refine Kd.C_drewN ?_ _) | (with_reducible refine Kd.C_drew ?_))); (case side2 => exact HC0.out); rintro e w' ⟨rfl, ⟨nd, rfl⟩⟩; refine ⟨_, rfl, ?_⟩))
 go_ret
 exact ⟨by first | rfl | (simp; done) | (simp [*]; done), by repeat (first | exact Drawn0.refl _ | apply Drawn0.step)⟩


/-! ### spec_htGood: function 28 -/
def spec_htGood.f (k : Nat) (a0_0 : Int) (a0_1 : Int) (a0_2 : Int) (a0_3 : Int) : Option (Bool) := (spec_htStaff.f a0_0).bind fun t123 => (if t123 = true then ((spec_htLong.f k (([a0_1, a0_2, a0_3] : List Int))).bind fun t127 => (if t127 = true then (some (decide (a0_2 < a0_3))) else (some false))) else (some false))
set_option maxHeartbeats 8000000 in
set_option maxRecDepth 100000 in
theorem spec_htGood.calls (k : Nat) (a0_0 : Int) (a0_1 : Int) (a0_2 : Int) (a0_3 : Int) (r : Bool) (w : World) (h : spec_htGood.f k a0_0 a0_1 a0_2 a0_3 = some r) :
  Calls Tryd.prog 28 #[.agg #[.int .i64 a0_0, .int .i64 a0_1, .int .i64 a0_2, .int .i64 a0_3]] w fun e w' => e = .returned (.bool r) ∧ Below w.heap.size w w' := by
 have hu23 := Tryd.underlying23
 have HB := Aside0.mk (Below.refl w.heap.size w)
 have H : ((spec_htStaff.f a0_0).bind fun t123 => (if t123 = true then ((spec_htLong.f k (([a0_1, a0_2, a0_3] : List Int))).bind fun t127 => (if t127 = true then (some (decide (a0_2 < a0_3))) else (some false))) else (some false))) = some r := h
 clear h; replace H := Option.bind_eq_some_iff.mp H; obtain ⟨t123, A20, H⟩ := H; (try dsimp only at H); have A2 := Aside0.mk A20; clear A20
 by_cases c3 : t123 = true
 ·subst c3
  rw [if_pos rfl] at H
  obtain ⟨y124, hy124⟩ : ∃ y_ : List Int, y_ = (([a0_1, a0_2, a0_3] : List Int)) := ⟨_, rfl⟩
  replace H : ((spec_htLong.f k y124).bind fun t127 => (if t127 = true then (some (decide (a0_2 < a0_3))) else (some false))) = some r := by first | (rw [hy124]; with_reducible exact H) | (have H2_ := (Option.bind_some _ _).symm.trans H; rw [hy124]; with_reducible exact H2_) | (have H2_ := (Option.bind_some _ _).symm.trans H; with_reducible exact H2_) | with_reducible exact H | (rw [hy124]; exact H) | exact H
  have Ny124 := Aside0.mk hy124; clear hy124; replace H := Option.bind_eq_some_iff.mp H; obtain ⟨t127, A40, H⟩ := H
  replace H : (if t127 = true then (some (decide (a0_2 < a0_3))) else (some false)) = some r := H
  have A4 := Aside0.mk A40; clear A40
  by_cases c5 : t127 = true
  ·subst c5
   rw [if_pos rfl] at H
   obtain rfl := Option.some.inj H
   go_enter Tryd.func28, Tryd.ntmps28
   go_wp2_with (first | ((with_reducible refine gate_dst (N := 1) rfl ?_); (try (refine gate_guard (by rfl) ?_; dsimp only)); refine zE 1 #[.int .i64 a0_0, .int .i64 a0_1, .int .i64 a0_2, .int .i64 a0_3] 23 ?_; intro gb122 hg w6 hbox hb; have BK122 := Aside0.mk (hbox); have GW122 := zg HB hg; have GE122 := GW122; replace HB := zh HB hb; clear hb hbox hg; obtain ⟨_, _, _, _, _, _, _, _⟩ := zc4 BK122) | ((with_reducible refine gate_callee (f := 39) rfl ?_); refine zG (some 5) Tryd.func39 #[.int .i64 a0_0] ?_; (with_reducible refine (spec_htStaff.calls a0_0 true _ A2.out).mono ?_); rintro e w' ⟨rfl, ⟨nd, rfl⟩⟩; refine ⟨_, rfl, ?_⟩) | ((with_reducible refine gate_dst (N := 13) rfl ?_); (try (refine gate_guard (by rfl) ?_; dsimp only)); refine Kd.R_lit (Kd.int .i64) _ 3 ?hg (N := 13) ?hd (xs := ([a0_1, a0_2, a0_3] : List Int)) (inner := [.int .i64 a0_1, .int .i64 a0_2, .int .i64 a0_3]) (ok := fun _ => True) (okp := fun _ => True) ?hr ?hp (fun _ hk => hk) trivial (Below.refl _ _) (Nat.le_refl _) zO0_6 ?_; (case hd => rfl); (case hg => rfl); (case hr => first | (go_simp; done) | (go_simp; rfl)); (case hp => exact (Reps.one (show Kd.M (Kd.int .i64) _ _ _ a0_1 [.int .i64 a0_1] from rfl) (Reps.one (show Kd.M (Kd.int .i64) _ _ _ a0_2 [.int .i64 a0_2] from rfl) (Reps.one (show Kd.M (Kd.int .i64) _ _ _ a0_3 [.int .i64 a0_3] from rfl) (Reps.none _ _))))); intro v125 w8 ho9 hb hg_ hnew_; clear hg_ hnew_; (first | rw [← Ny124.out] at ho9 | (simp only [Int.reduceToNat] at ho9; rw [← Ny124.out] at ho9)); have HO126 := Aside0.mk (Kd.R_lower ho9 (below_size (zy HB))); replace BK122 := zb BK122 hb; replace HB := zh HB hb; clear hb ho9; obtain ⟨Ao10, co10, eo10⟩ := Kd.R_slice HO126.out; subst eo10) | (go_at_call 40; (with_reducible refine (spec_htLong.calls k _ _ y124 true _ ?side1 ?side2 A4.out).mono ?_); (case side1 => repeat (first | exact (Kd.R_reads' HO126.out).2.2 | (with_reducible refine Kd.C_alloc ?_ _) | (with_reducible refine Kd.C_drewN ?_ _) | (with_reducible refine Kd.C_drew ?_))); (case side2 => exact (Kd.R_reads' HO126.out).2.1); rintro e w' ⟨rfl, ⟨nd, rfl⟩⟩; obtain ⟨_, _, _, _, _, _, _, _⟩ := zc4 BK122))
   go_ret
   exact ⟨zt, zy HB⟩
  ·replace c5 := Bool.eq_false_iff.mpr c5
   subst c5; rw [if_neg (show ¬ (false = true) by decide)] at H
   obtain rfl := Option.some.inj H
   go_enter Tryd.func28, Tryd.ntmps28
   go_wp2_with (first | ((with_reducible refine gate_dst (N := 1) rfl ?_); (try (refine gate_guard (by rfl) ?_; dsimp only)); refine zE 1 #[.int .i64 a0_0, .int .i64 a0_1, .int .i64 a0_2, .int .i64 a0_3] 23 ?_; intro gb122 hg w12 hbox hb; have BK122 := Aside0.mk (hbox); have GW122 := zg HB hg; have GE122 := GW122; replace HB := zh HB hb; clear hb hbox hg; obtain ⟨_, _, _, _, _, _, _, _⟩ := zc4 BK122) | ((with_reducible refine gate_callee (f := 39) rfl ?_); refine zG (some 5) Tryd.func39 #[.int .i64 a0_0] ?_; (with_reducible refine (spec_htStaff.calls a0_0 true _ A2.out).mono ?_); rintro e w' ⟨rfl, ⟨nd, rfl⟩⟩; refine ⟨_, rfl, ?_⟩) | ((with_reducible refine gate_dst (N := 13) rfl ?_); (try (refine gate_guard (by rfl) ?_; dsimp only)); refine Kd.R_lit (Kd.int .i64) _ 3 ?hg (N := 13) ?hd (xs := ([a0_1, a0_2, a0_3] : List Int)) (inner := [.int .i64 a0_1, .int .i64 a0_2, .int .i64 a0_3]) (ok := fun _ => True) (okp := fun _ => True) ?hr ?hp (fun _ hk => hk) trivial (Below.refl _ _) (Nat.le_refl _) zO0_6 ?_; (case hd => rfl); (case hg => rfl); (case hr => first | (go_simp; done) | (go_simp; rfl)); (case hp => exact (Reps.one (show Kd.M (Kd.int .i64) _ _ _ a0_1 [.int .i64 a0_1] from rfl) (Reps.one (show Kd.M (Kd.int .i64) _ _ _ a0_2 [.int .i64 a0_2] from rfl) (Reps.one (show Kd.M (Kd.int .i64) _ _ _ a0_3 [.int .i64 a0_3] from rfl) (Reps.none _ _))))); intro v125 w14 ho15 hb hg_ hnew_; clear hg_ hnew_; (first | rw [← Ny124.out] at ho15 | (simp only [Int.reduceToNat] at ho15; rw [← Ny124.out] at ho15)); have HO126 := Aside0.mk (Kd.R_lower ho15 (below_size (zy HB))); replace BK122 := zb BK122 hb; replace HB := zh HB hb; clear hb ho15; obtain ⟨Ao16, co16, eo16⟩ := Kd.R_slice HO126.out; subst eo16) | (go_at_call 40; (with_reducible refine (spec_htLong.calls k _ _ y124 false _ ?side1 ?side2 A4.out).mono ?_); (case side1 => repeat (first | exact (Kd.R_reads' HO126.out).2.2 | (with_reducible refine Kd.C_alloc ?_ _) | (with_reducible refine Kd.C_drewN ?_ _) | (with_reducible refine Kd.C_drew ?_))); (case side2 => exact (Kd.R_reads' HO126.out).2.1); rintro e w' ⟨rfl, ⟨nd, rfl⟩⟩))
   go_ret
   exact ⟨zt, zy HB⟩
 ·replace c3 := Bool.eq_false_iff.mpr c3
  subst c3; rw [if_neg (show ¬ (false = true) by decide)] at H
  obtain rfl := Option.some.inj H
  go_enter Tryd.func28, Tryd.ntmps28
  go_wp2_with (first | ((with_reducible refine gate_dst (N := 1) rfl ?_); (try (refine gate_guard (by rfl) ?_; dsimp only)); refine zE 1 #[.int .i64 a0_0, .int .i64 a0_1, .int .i64 a0_2, .int .i64 a0_3] 23 ?_; intro gb122 hg w17 hbox hb; have BK122 := Aside0.mk (hbox); have GW122 := zg HB hg; have GE122 := GW122; replace HB := zh HB hb; clear hb hbox hg; obtain ⟨_, _, _, _, _, _, _, _⟩ := zc4 BK122) | ((with_reducible refine gate_callee (f := 39) rfl ?_); refine zG (some 5) Tryd.func39 #[.int .i64 a0_0] ?_; (with_reducible refine (spec_htStaff.calls a0_0 false _ A2.out).mono ?_); rintro e w' ⟨rfl, ⟨nd, rfl⟩⟩; refine ⟨_, rfl, ?_⟩))
  go_ret
  exact ⟨zt, zy HB⟩


/-! ### spec_clLow: function 31 -/
def spec_clLow.l0 : Nat → Int → Int → Int → Int → Option (Int × Int)
 | 0, _, _, _, _ => none
 | k + 1, x0, x1, x6, x7 => if x7 > 0 then (if x7 = 0 then (none) else (spec_clLow.l0 k x0 x1 x7 (Int.tmod x6 x7))) else (if x6 = 0 then (none) else (some (wrap64 (Int.tdiv x0 x6), wrap64 (Int.tdiv x1 x6))))
def spec_clLow.f (k : Nat) (a0 : Int) (a1 : Int) : Option (Int × Int) := spec_clLow.l0 k a0 a1 a0 a1
set_option maxHeartbeats 8000000 in
set_option maxRecDepth 100000 in
theorem spec_clLow.calls (k : Nat) (a0 : Int) (a1 : Int) (r1 : Int) (r2 : Int) (w : World) (h : spec_clLow.f k a0 a1 = some (r1, r2)) :
  Calls Tryd.prog 31 #[.int .i64 a0, .int .i64 a1] w fun e w' => e = .returned (.tuple #[.int .i64 r1, .int .i64 r2]) ∧ Drawn0 w w' := by
 have H : (spec_clLow.l0 k a0 a1 a0 a1) = some (r1, r2) := h
 clear h; have H' := Aside0.mk H; clear H
 go_enter Tryd.func31, Tryd.ntmps31
 go_wp2
 repeat (go_quiet (fail); try go_wp2)
 go_loopg [6, 7] k (fun kq v6 v7 w' => ∃ (x6_1 : Int) (x7_1 : Int), v6 = .int .i64 x6_1 ∧ v7 = .int .i64 x7_1 ∧ Aside0 (spec_clLow.l0 kq a0 a1 x6_1 x7_1 = some (r1, r2)) ∧ Aside0 (kq ≤ k) ∧ Drawn0 w w')
 case atStart => exact ⟨(a0), (a1), zu, zu, H', ⟨Nat.le_refl _⟩, by repeat (first | exact Drawn0.refl _ | apply Drawn0.step)⟩
 case round =>
  clear H'
  obtain ⟨x6_1, x7_1, rfl, rfl, HA, HK1, ⟨m1, rfl⟩⟩ := hrel
  cases gk with
  | zero => exact absurd HA.out (by simp [spec_clLow.l0])
  | succ k1 =>
   have H := HA.out; clear HA; simp only [spec_clLow.l0] at H
   by_cases c3 : x7_1 > 0
   ·rw [if_pos c3] at H
    have c3b0 : decide (0 < x7_1) = true := decide_eq_true c3; clear c3
    by_cases c4 : x7_1 = 0
    ·rw [if_pos c4] at H
     exact absurd H zO0_6
    ·rw [if_neg c4] at H
     have c4b0 : (x7_1 == 0) = false := beq_eq_false_iff_ne.mpr c4
     have c4b1 : (x7_1 != 0) = true := bne_iff_ne.mpr c4
     have H' := Aside0.mk H; clear H
     go_wp2
     repeat (go_quiet (fail); try go_wp2)
     go_roundg k1
     case measure => have := HK1.out; omega
     case rel => exact ⟨(x7_1), (Int.tmod x6_1 x7_1), zu, zu, H', ⟨by have := HK1.out; omega⟩, by repeat (first | exact Drawn0.refl _ | apply Drawn0.step)⟩
   ·rw [if_neg c3] at H
    have c3b0 : decide (0 < x7_1) = false := decide_eq_false c3; clear c3
    by_cases c5 : x6_1 = 0
    ·rw [if_pos c5] at H
     exact absurd H zO0_6
    ·rw [if_neg c5] at H
     have c5b0 : (x6_1 == 0) = false := beq_eq_false_iff_ne.mpr c5
     have c5b1 : (x6_1 != 0) = true := bne_iff_ne.mpr c5
     simp only [Option.some.injEq, Prod.mk.injEq] at H; obtain ⟨rfl, rfl⟩ := H
     go_wp2
     repeat (go_quiet (fail); try go_wp2)
     go_ret2
     exact ⟨by first | rfl | (simp; done) | (simp [*]; done), by repeat (first | exact Drawn0.refl _ | apply Drawn0.step)⟩


/-! ### spec_htHeight: function 29 -/
def spec_htHeight.f (k : Nat) (a0_0 : Int) (a0_1 : Int) (a0_2 : Int) (a0_3 : Int) : Option (Int × Int) := (spec_clLow.f k (wrap64 (a0_0 * (wrap64 (a0_1 + (wrap64 (a0_3 - a0_2)))))) (wrap64 (a0_3 - a0_2))).bind fun bt129 => (some (bt129.1, bt129.2))
set_option maxHeartbeats 8000000 in
set_option maxRecDepth 100000 in
theorem spec_htHeight.calls (k : Nat) (a0_0 : Int) (a0_1 : Int) (a0_2 : Int) (a0_3 : Int) (r1 : Int) (r2 : Int) (w : World) (h : spec_htHeight.f k a0_0 a0_1 a0_2 a0_3 = some (r1, r2)) :
  Calls Tryd.prog 29 #[.agg #[.int .i64 a0_0, .int .i64 a0_1, .int .i64 a0_2, .int .i64 a0_3]] w fun e w' => e = .returned (.tuple #[.int .i64 r1, .int .i64 r2]) ∧ Below w.heap.size w w' := by
 have hu23 := Tryd.underlying23
 have HB := Aside0.mk (Below.refl w.heap.size w)
 have H : ((spec_clLow.f k (wrap64 (a0_0 * (wrap64 (a0_1 + (wrap64 (a0_3 - a0_2)))))) (wrap64 (a0_3 - a0_2))).bind fun bt129 => (some (bt129.1, bt129.2))) = some (r1, r2) := h
 clear h; replace H := Option.bind_eq_some_iff.mp H; obtain ⟨⟨t129, t130⟩, A20, H⟩ := H
 replace H : (some (t129, t130)) = some (r1, r2) := H
 have A2 := Aside0.mk A20; clear A20; simp only [Option.some.injEq, Prod.mk.injEq] at H; obtain ⟨rfl, rfl⟩ := H
 go_enter Tryd.func29, Tryd.ntmps29
 go_wp2_with (first | ((with_reducible refine gate_dst (N := 1) rfl ?_); refine zE 1 #[.int .i64 a0_0, .int .i64 a0_1, .int .i64 a0_2, .int .i64 a0_3] 23 ?_; intro gb128 hg w3 hbox hb; have BK128 := Aside0.mk (hbox); have GW128 := zg HB hg; have GE128 := GW128; replace HB := zh HB hb; clear hb hbox hg; obtain ⟨_, _, _, _, _, _, _, _⟩ := zc4 BK128) | ((with_reducible refine gate_callee (f := 31) rfl ?_); refine zG (some 18) Tryd.func31 #[.int .i64 (wrap64 (a0_0 * (wrap64 (a0_1 + (wrap64 (a0_3 - a0_2)))))), .int .i64 (wrap64 (a0_3 - a0_2))] ?_; (with_reducible refine (spec_clLow.calls k (wrap64 (a0_0 * (wrap64 (a0_1 + (wrap64 (a0_3 - a0_2)))))) (wrap64 (a0_3 - a0_2)) t129 t130 _ A2.out).mono ?_); rintro e w' ⟨rfl, ⟨nd, rfl⟩⟩; refine ⟨_, rfl, ?_⟩))
 go_ret2
 exact ⟨zt, zy HB⟩


/-! ### spec_IslandHeight: function 5 -/
def spec_IslandHeight.f (k : Nat) (a0_0 : Int) (a0_1 : Int) (a0_2 : Int) (a0_3 : Int) : Option (Int × Int × Bool) := (spec_htGood.f k a0_0 a0_1 a0_2 a0_3).bind fun t132 => (if t132 = true then ((spec_htHeight.f k a0_0 a0_1 a0_2 a0_3).bind fun bt133 => (some (bt133.1, bt133.2, true))) else (some (0, 0, false)))
set_option maxHeartbeats 8000000 in
set_option maxRecDepth 100000 in
theorem spec_IslandHeight.calls (k : Nat) (a0_0 : Int) (a0_1 : Int) (a0_2 : Int) (a0_3 : Int) (r1 : Int) (r2 : Int) (r3 : Bool) (w : World) (h : spec_IslandHeight.f k a0_0 a0_1 a0_2 a0_3 = some (r1, r2, r3)) :
  Calls Tryd.prog 5 #[.agg #[.int .i64 a0_0, .int .i64 a0_1, .int .i64 a0_2, .int .i64 a0_3]] w fun e w' => e = .returned (.tuple #[.int .i64 r1, .int .i64 r2, .bool r3]) ∧ Below w.heap.size w w' := by
 have hu23 := Tryd.underlying23
 have HB := Aside0.mk (Below.refl w.heap.size w)
 have H : ((spec_htGood.f k a0_0 a0_1 a0_2 a0_3).bind fun t132 => (if t132 = true then ((spec_htHeight.f k a0_0 a0_1 a0_2 a0_3).bind fun bt133 => (some (bt133.1, bt133.2, true))) else (some (0, 0, false)))) = some (r1, r2, r3) := h
 clear h; replace H := Option.bind_eq_some_iff.mp H; obtain ⟨t132, A20, H⟩ := H
 replace H : (if t132 = true then ((spec_htHeight.f k a0_0 a0_1 a0_2 a0_3).bind fun bt133 => (some (bt133.1, bt133.2, true))) else (some (0, 0, false))) = some (r1, r2, r3) := H
 have A2 := Aside0.mk A20; clear A20
 by_cases c3 : t132 = true
 ·subst c3
  rw [if_pos rfl] at H; replace H := Option.bind_eq_some_iff.mp H; obtain ⟨⟨t133, t134⟩, A40, H⟩ := H
  replace H : (some (t133, t134, true)) = some (r1, r2, r3) := H
  have A4 := Aside0.mk A40; clear A40; simp only [Option.some.injEq, Prod.mk.injEq] at H; obtain ⟨rfl, rfl, rfl⟩ := H
  go_enter Tryd.func5, Tryd.ntmps5
  go_wp2_with (first | ((with_reducible refine gate_dst (N := 1) rfl ?_); refine zE 1 #[.int .i64 a0_0, .int .i64 a0_1, .int .i64 a0_2, .int .i64 a0_3] 23 ?_; intro gb131 hg w5 hbox hb; have BK131 := Aside0.mk (hbox); have GW131 := zg HB hg; have GE131 := GW131; replace HB := zh HB hb; clear hb hbox hg; obtain ⟨_, _, _, _, _, _, _, _⟩ := zc4 BK131) | ((with_reducible refine gate_callee (f := 28) rfl ?_); refine zG (some 8) Tryd.func28 #[.agg #[.int .i64 a0_0, .int .i64 a0_1, .int .i64 a0_2, .int .i64 a0_3]] ?_; (with_reducible refine (spec_htGood.calls k a0_0 a0_1 a0_2 a0_3 true _ A2.out).mono ?_); rintro e w7 ⟨rfl, hb⟩; refine ⟨_, rfl, ?_⟩; replace BK131 := zb BK131 hb; replace HB := zh HB hb; clear hb; obtain ⟨_, _, _, _, _, _, _, _⟩ := zc4 BK131) | ((with_reducible refine gate_callee (f := 29) rfl ?_); refine zG (some 12) Tryd.func29 #[.agg #[.int .i64 a0_0, .int .i64 a0_1, .int .i64 a0_2, .int .i64 a0_3]] ?_; (with_reducible refine (spec_htHeight.calls k a0_0 a0_1 a0_2 a0_3 t133 t134 _ A4.out).mono ?_); rintro e w9 ⟨rfl, hb⟩; refine ⟨_, rfl, ?_⟩; replace BK131 := zb BK131 hb; replace HB := zh HB hb; clear hb))
  go_ret3
  exact ⟨zt, zy HB⟩
 ·replace c3 := Bool.eq_false_iff.mpr c3
  subst c3; rw [if_neg (show ¬ (false = true) by decide)] at H; simp only [Option.some.injEq, Prod.mk.injEq] at H; obtain ⟨rfl, rfl, rfl⟩ := H
  go_enter Tryd.func5, Tryd.ntmps5
  go_wp2_with (first | ((with_reducible refine gate_dst (N := 1) rfl ?_); refine zE 1 #[.int .i64 a0_0, .int .i64 a0_1, .int .i64 a0_2, .int .i64 a0_3] 23 ?_; intro gb131 hg w10 hbox hb; have BK131 := Aside0.mk (hbox); have GW131 := zg HB hg; have GE131 := GW131; replace HB := zh HB hb; clear hb hbox hg; obtain ⟨_, _, _, _, _, _, _, _⟩ := zc4 BK131) | ((with_reducible refine gate_callee (f := 28) rfl ?_); refine zG (some 8) Tryd.func28 #[.agg #[.int .i64 a0_0, .int .i64 a0_1, .int .i64 a0_2, .int .i64 a0_3]] ?_; (with_reducible refine (spec_htGood.calls k a0_0 a0_1 a0_2 a0_3 false _ A2.out).mono ?_); rintro e w12 ⟨rfl, hb⟩; refine ⟨_, rfl, ?_⟩; replace BK131 := zb BK131 hb; replace HB := zh HB hb; clear hb))
  go_ret3
  exact ⟨zt, zy HB⟩


/-! ### impl_IslandAway: function 6 -/
def impl_IslandAway.f (k : Nat) (a0_0 : Int) (a0_1 : Int) (a0_2 : Int) (a0_3 : Int) : Option (Int × Int × Bool) := (impl_IsIsland.f a0_0 a0_1 a0_2 a0_3).bind fun t136 => (if t136 = true then ((impl_fraction.f k (wrap64 (a0_2 * a0_1)) (wrap64 (a0_3 - a0_2))).bind fun bt137 => (some (bt137.1, bt137.2.1, bt137.2.2))) else (some (0, 0, false)))
set_option maxHeartbeats 8000000 in
set_option maxRecDepth 100000 in
theorem impl_IslandAway.calls (k : Nat) (a0_0 : Int) (a0_1 : Int) (a0_2 : Int) (a0_3 : Int) (r1 : Int) (r2 : Int) (r3 : Bool) (w : World) (h : impl_IslandAway.f k a0_0 a0_1 a0_2 a0_3 = some (r1, r2, r3)) :
  Calls Tryd.prog 6 #[.agg #[.int .i64 a0_0, .int .i64 a0_1, .int .i64 a0_2, .int .i64 a0_3]] w fun e w' => e = .returned (.tuple #[.int .i64 r1, .int .i64 r2, .bool r3]) ∧ Below w.heap.size w w' := by
 have hu23 := Tryd.underlying23
 have HB := Aside0.mk (Below.refl w.heap.size w)
 have H : ((impl_IsIsland.f a0_0 a0_1 a0_2 a0_3).bind fun t136 => (if t136 = true then ((impl_fraction.f k (wrap64 (a0_2 * a0_1)) (wrap64 (a0_3 - a0_2))).bind fun bt137 => (some (bt137.1, bt137.2.1, bt137.2.2))) else (some (0, 0, false)))) = some (r1, r2, r3) := h
 clear h; replace H := Option.bind_eq_some_iff.mp H; obtain ⟨t136, A20, H⟩ := H; (try dsimp only at H); have A2 := Aside0.mk A20; clear A20
 by_cases c3 : t136 = true
 ·subst c3
  rw [if_pos rfl] at H; replace H := Option.bind_eq_some_iff.mp H; obtain ⟨⟨t137, t138, t139⟩, A40, H⟩ := H
  replace H : (some (t137, t138, t139)) = some (r1, r2, r3) := H
  have A4 := Aside0.mk A40; clear A40; simp only [Option.some.injEq, Prod.mk.injEq] at H; obtain ⟨rfl, rfl, rfl⟩ := H
  go_enter Tryd.func6, Tryd.ntmps6
  go_wp2_with (first | ((with_reducible refine gate_dst (N := 1) rfl ?_); refine zE 1 #[.int .i64 a0_0, .int .i64 a0_1, .int .i64 a0_2, .int .i64 a0_3] 23 ?_; intro gb135 hg w5 hbox hb; have BK135 := Aside0.mk (hbox); have GW135 := zg HB hg; have GE135 := GW135; replace HB := zh HB hb; clear hb hbox hg; obtain ⟨_, _, _, _, _, _, _, _⟩ := zc4 BK135) | ((with_reducible refine gate_callee (f := 12) rfl ?_); refine zG (some 6) Tryd.func12 #[.agg #[.int .i64 a0_0, .int .i64 a0_1, .int .i64 a0_2, .int .i64 a0_3]] ?_; (with_reducible refine (impl_IsIsland.calls a0_0 a0_1 a0_2 a0_3 true _ A2.out).mono ?_); rintro e w7 ⟨rfl, hb⟩; refine ⟨_, rfl, ?_⟩; replace BK135 := zb BK135 hb; replace HB := zh HB hb; clear hb; obtain ⟨_, _, _, _, _, _, _, _⟩ := zc4 BK135) | ((with_reducible refine gate_callee (f := 27) rfl ?_); refine zG (some 18) Tryd.func27 #[.int .i64 (wrap64 (a0_2 * a0_1)), .int .i64 (wrap64 (a0_3 - a0_2))] ?_; (with_reducible refine (impl_fraction.calls k (wrap64 (a0_2 * a0_1)) (wrap64 (a0_3 - a0_2)) t137 t138 t139 _ A4.out).mono ?_); rintro e w9 ⟨rfl, hb⟩; refine ⟨_, rfl, ?_⟩; replace BK135 := zb BK135 hb; replace HB := zh HB hb; clear hb))
  go_ret3
  exact ⟨zt, zy HB⟩
 ·replace c3 := Bool.eq_false_iff.mpr c3
  subst c3; rw [if_neg (show ¬ (false = true) by decide)] at H; simp only [Option.some.injEq, Prod.mk.injEq] at H; obtain ⟨rfl, rfl, rfl⟩ := H
  go_enter Tryd.func6, Tryd.ntmps6
  go_wp2_with (first | ((with_reducible refine gate_dst (N := 1) rfl ?_); refine zE 1 #[.int .i64 a0_0, .int .i64 a0_1, .int .i64 a0_2, .int .i64 a0_3] 23 ?_; intro gb135 hg w10 hbox hb; have BK135 := Aside0.mk (hbox); have GW135 := zg HB hg; have GE135 := GW135; replace HB := zh HB hb; clear hb hbox hg; obtain ⟨_, _, _, _, _, _, _, _⟩ := zc4 BK135) | ((with_reducible refine gate_callee (f := 12) rfl ?_); refine zG (some 6) Tryd.func12 #[.agg #[.int .i64 a0_0, .int .i64 a0_1, .int .i64 a0_2, .int .i64 a0_3]] ?_; (with_reducible refine (impl_IsIsland.calls a0_0 a0_1 a0_2 a0_3 false _ A2.out).mono ?_); rintro e w12 ⟨rfl, hb⟩; refine ⟨_, rfl, ?_⟩; replace BK135 := zb BK135 hb; replace HB := zh HB hb; clear hb))
  go_ret3
  exact ⟨zt, zy HB⟩


/-! ### spec_htAway: function 30 -/
def spec_htAway.f (k : Nat) (a0_0 : Int) (a0_1 : Int) (a0_2 : Int) (a0_3 : Int) : Option (Int × Int) := (spec_clLow.f k (wrap64 (a0_2 * a0_1)) (wrap64 (a0_3 - a0_2))).bind fun bt141 => (some (bt141.1, bt141.2))
set_option maxHeartbeats 8000000 in
set_option maxRecDepth 100000 in
theorem spec_htAway.calls (k : Nat) (a0_0 : Int) (a0_1 : Int) (a0_2 : Int) (a0_3 : Int) (r1 : Int) (r2 : Int) (w : World) (h : spec_htAway.f k a0_0 a0_1 a0_2 a0_3 = some (r1, r2)) :
  Calls Tryd.prog 30 #[.agg #[.int .i64 a0_0, .int .i64 a0_1, .int .i64 a0_2, .int .i64 a0_3]] w fun e w' => e = .returned (.tuple #[.int .i64 r1, .int .i64 r2]) ∧ Below w.heap.size w w' := by
 have hu23 := Tryd.underlying23
 have HB := Aside0.mk (Below.refl w.heap.size w)
 have H : ((spec_clLow.f k (wrap64 (a0_2 * a0_1)) (wrap64 (a0_3 - a0_2))).bind fun bt141 => (some (bt141.1, bt141.2))) = some (r1, r2) := h
 clear h; replace H := Option.bind_eq_some_iff.mp H; obtain ⟨⟨t141, t142⟩, A20, H⟩ := H
 replace H : (some (t141, t142)) = some (r1, r2) := H
 have A2 := Aside0.mk A20; clear A20; simp only [Option.some.injEq, Prod.mk.injEq] at H; obtain ⟨rfl, rfl⟩ := H
 go_enter Tryd.func30, Tryd.ntmps30
 go_wp2_with (first | ((with_reducible refine gate_dst (N := 1) rfl ?_); refine zE 1 #[.int .i64 a0_0, .int .i64 a0_1, .int .i64 a0_2, .int .i64 a0_3] 23 ?_; intro gb140 hg w3 hbox hb; have BK140 := Aside0.mk (hbox); have GW140 := zg HB hg; have GE140 := GW140; replace HB := zh HB hb; clear hb hbox hg; obtain ⟨_, _, _, _, _, _, _, _⟩ := zc4 BK140) | ((with_reducible refine gate_callee (f := 31) rfl ?_); refine zG (some 14) Tryd.func31 #[.int .i64 (wrap64 (a0_2 * a0_1)), .int .i64 (wrap64 (a0_3 - a0_2))] ?_; (with_reducible refine (spec_clLow.calls k (wrap64 (a0_2 * a0_1)) (wrap64 (a0_3 - a0_2)) t141 t142 _ A2.out).mono ?_); rintro e w' ⟨rfl, ⟨nd, rfl⟩⟩; refine ⟨_, rfl, ?_⟩))
 go_ret2
 exact ⟨zt, zy HB⟩


/-! ### spec_IslandAway: function 7 -/
def spec_IslandAway.f (k : Nat) (a0_0 : Int) (a0_1 : Int) (a0_2 : Int) (a0_3 : Int) : Option (Int × Int × Bool) := (spec_htGood.f k a0_0 a0_1 a0_2 a0_3).bind fun t144 => (if t144 = true then ((spec_htAway.f k a0_0 a0_1 a0_2 a0_3).bind fun bt145 => (some (bt145.1, bt145.2, true))) else (some (0, 0, false)))
set_option maxHeartbeats 8000000 in
set_option maxRecDepth 100000 in
theorem spec_IslandAway.calls (k : Nat) (a0_0 : Int) (a0_1 : Int) (a0_2 : Int) (a0_3 : Int) (r1 : Int) (r2 : Int) (r3 : Bool) (w : World) (h : spec_IslandAway.f k a0_0 a0_1 a0_2 a0_3 = some (r1, r2, r3)) :
  Calls Tryd.prog 7 #[.agg #[.int .i64 a0_0, .int .i64 a0_1, .int .i64 a0_2, .int .i64 a0_3]] w fun e w' => e = .returned (.tuple #[.int .i64 r1, .int .i64 r2, .bool r3]) ∧ Below w.heap.size w w' := by
 have hu23 := Tryd.underlying23
 have HB := Aside0.mk (Below.refl w.heap.size w)
 have H : ((spec_htGood.f k a0_0 a0_1 a0_2 a0_3).bind fun t144 => (if t144 = true then ((spec_htAway.f k a0_0 a0_1 a0_2 a0_3).bind fun bt145 => (some (bt145.1, bt145.2, true))) else (some (0, 0, false)))) = some (r1, r2, r3) := h
 clear h; replace H := Option.bind_eq_some_iff.mp H; obtain ⟨t144, A20, H⟩ := H
 replace H : (if t144 = true then ((spec_htAway.f k a0_0 a0_1 a0_2 a0_3).bind fun bt145 => (some (bt145.1, bt145.2, true))) else (some (0, 0, false))) = some (r1, r2, r3) := H
 have A2 := Aside0.mk A20; clear A20
 by_cases c3 : t144 = true
 ·subst c3
  rw [if_pos rfl] at H; replace H := Option.bind_eq_some_iff.mp H; obtain ⟨⟨t145, t146⟩, A40, H⟩ := H
  replace H : (some (t145, t146, true)) = some (r1, r2, r3) := H
  have A4 := Aside0.mk A40; clear A40; simp only [Option.some.injEq, Prod.mk.injEq] at H; obtain ⟨rfl, rfl, rfl⟩ := H
  go_enter Tryd.func7, Tryd.ntmps7
  go_wp2_with (first | ((with_reducible refine gate_dst (N := 1) rfl ?_); refine zE 1 #[.int .i64 a0_0, .int .i64 a0_1, .int .i64 a0_2, .int .i64 a0_3] 23 ?_; intro gb143 hg w5 hbox hb; have BK143 := Aside0.mk (hbox); have GW143 := zg HB hg; have GE143 := GW143; replace HB := zh HB hb; clear hb hbox hg; obtain ⟨_, _, _, _, _, _, _, _⟩ := zc4 BK143) | ((with_reducible refine gate_callee (f := 28) rfl ?_); refine zG (some 8) Tryd.func28 #[.agg #[.int .i64 a0_0, .int .i64 a0_1, .int .i64 a0_2, .int .i64 a0_3]] ?_; (with_reducible refine (spec_htGood.calls k a0_0 a0_1 a0_2 a0_3 true _ A2.out).mono ?_); rintro e w7 ⟨rfl, hb⟩; refine ⟨_, rfl, ?_⟩; replace BK143 := zb BK143 hb; replace HB := zh HB hb; clear hb; obtain ⟨_, _, _, _, _, _, _, _⟩ := zc4 BK143) | ((with_reducible refine gate_callee (f := 30) rfl ?_); refine zG (some 12) Tryd.func30 #[.agg #[.int .i64 a0_0, .int .i64 a0_1, .int .i64 a0_2, .int .i64 a0_3]] ?_; (with_reducible refine (spec_htAway.calls k a0_0 a0_1 a0_2 a0_3 t145 t146 _ A4.out).mono ?_); rintro e w9 ⟨rfl, hb⟩; refine ⟨_, rfl, ?_⟩; replace BK143 := zb BK143 hb; replace HB := zh HB hb; clear hb))
  go_ret3
  exact ⟨zt, zy HB⟩
 ·replace c3 := Bool.eq_false_iff.mpr c3
  subst c3; rw [if_neg (show ¬ (false = true) by decide)] at H; simp only [Option.some.injEq, Prod.mk.injEq] at H; obtain ⟨rfl, rfl, rfl⟩ := H
  go_enter Tryd.func7, Tryd.ntmps7
  go_wp2_with (first | ((with_reducible refine gate_dst (N := 1) rfl ?_); refine zE 1 #[.int .i64 a0_0, .int .i64 a0_1, .int .i64 a0_2, .int .i64 a0_3] 23 ?_; intro gb143 hg w10 hbox hb; have BK143 := Aside0.mk (hbox); have GW143 := zg HB hg; have GE143 := GW143; replace HB := zh HB hb; clear hb hbox hg; obtain ⟨_, _, _, _, _, _, _, _⟩ := zc4 BK143) | ((with_reducible refine gate_callee (f := 28) rfl ?_); refine zG (some 8) Tryd.func28 #[.agg #[.int .i64 a0_0, .int .i64 a0_1, .int .i64 a0_2, .int .i64 a0_3]] ?_; (with_reducible refine (spec_htGood.calls k a0_0 a0_1 a0_2 a0_3 false _ A2.out).mono ?_); rintro e w12 ⟨rfl, hb⟩; refine ⟨_, rfl, ?_⟩; replace BK143 := zb BK143 hb; replace HB := zh HB hb; clear hb))
  go_ret3
  exact ⟨zt, zy HB⟩


/-! ### impl_HigherByStep: function 8 -/
def impl_HigherByStep.f (k : Nat) (a0_0 : Int) (a0_1 : Int) (a0_2 : Int) (a0_3 : Int) : Option (Int × Int × Bool) := (impl_IsIsland.f a0_0 a0_1 a0_2 a0_3).bind fun t148 => (if t148 = true then (if (wrap64 (a0_3 - a0_2)) = 1 then (some (0, 0, false)) else ((impl_fraction.f k (wrap64 (a0_0 * a0_1)) (wrap64 ((wrap64 (a0_3 - a0_2)) * (wrap64 ((wrap64 (a0_3 - a0_2)) - 1))))).bind fun bt149 => (some (bt149.1, bt149.2.1, bt149.2.2)))) else (some (0, 0, false)))
set_option maxHeartbeats 8000000 in
set_option maxRecDepth 100000 in
theorem impl_HigherByStep.calls (k : Nat) (a0_0 : Int) (a0_1 : Int) (a0_2 : Int) (a0_3 : Int) (r1 : Int) (r2 : Int) (r3 : Bool) (w : World) (h : impl_HigherByStep.f k a0_0 a0_1 a0_2 a0_3 = some (r1, r2, r3)) :
  Calls Tryd.prog 8 #[.agg #[.int .i64 a0_0, .int .i64 a0_1, .int .i64 a0_2, .int .i64 a0_3]] w fun e w' => e = .returned (.tuple #[.int .i64 r1, .int .i64 r2, .bool r3]) ∧ Below w.heap.size w w' := by
 have hu23 := Tryd.underlying23
 have HB := Aside0.mk (Below.refl w.heap.size w)
 have H : ((impl_IsIsland.f a0_0 a0_1 a0_2 a0_3).bind fun t148 => (if t148 = true then (if (wrap64 (a0_3 - a0_2)) = 1 then (some (0, 0, false)) else ((impl_fraction.f k (wrap64 (a0_0 * a0_1)) (wrap64 ((wrap64 (a0_3 - a0_2)) * (wrap64 ((wrap64 (a0_3 - a0_2)) - 1))))).bind fun bt149 => (some (bt149.1, bt149.2.1, bt149.2.2)))) else (some (0, 0, false)))) = some (r1, r2, r3) := h
 clear h; replace H := Option.bind_eq_some_iff.mp H; obtain ⟨t148, A20, H⟩ := H; (try dsimp only at H); have A2 := Aside0.mk A20; clear A20
 by_cases c3 : t148 = true
 ·subst c3
  rw [if_pos rfl] at H
  by_cases c4 : (wrap64 (a0_3 - a0_2)) = 1
  ·rw [if_pos c4] at H
   have c4b0 : ((wrap64 (a0_3 - a0_2)) == 1) = true := beq_iff_eq.mpr c4
   have c4b1 : ((wrap64 (a0_3 - a0_2)) != 1) = false := bne_eq_false_iff_eq.mpr c4
   clear c4; simp only [Option.some.injEq, Prod.mk.injEq] at H; obtain ⟨rfl, rfl, rfl⟩ := H
   go_enter Tryd.func8, Tryd.ntmps8
   go_wp2_with (first | ((with_reducible refine gate_dst (N := 1) rfl ?_); refine zE 1 #[.int .i64 a0_0, .int .i64 a0_1, .int .i64 a0_2, .int .i64 a0_3] 23 ?_; intro gb147 hg w5 hbox hb; have BK147 := Aside0.mk (hbox); have GW147 := zg HB hg; have GE147 := GW147; replace HB := zh HB hb; clear hb hbox hg; obtain ⟨_, _, _, _, _, _, _, _⟩ := zc4 BK147) | ((with_reducible refine gate_callee (f := 12) rfl ?_); refine zG (some 12) Tryd.func12 #[.agg #[.int .i64 a0_0, .int .i64 a0_1, .int .i64 a0_2, .int .i64 a0_3]] ?_; (with_reducible refine (impl_IsIsland.calls a0_0 a0_1 a0_2 a0_3 true _ A2.out).mono ?_); rintro e w7 ⟨rfl, hb⟩; refine ⟨_, rfl, ?_⟩; replace BK147 := zb BK147 hb; replace HB := zh HB hb; clear hb))
   go_ret3
   exact ⟨zt, zy HB⟩
  ·rw [if_neg c4] at H
   have c4b0 : ((wrap64 (a0_3 - a0_2)) == 1) = false := beq_eq_false_iff_ne.mpr c4
   have c4b1 : ((wrap64 (a0_3 - a0_2)) != 1) = true := bne_iff_ne.mpr c4
   replace H := Option.bind_eq_some_iff.mp H; obtain ⟨⟨t149, t150, t151⟩, A80, H⟩ := H
   replace H : (some (t149, t150, t151)) = some (r1, r2, r3) := H
   have A8 := Aside0.mk A80; clear A80; simp only [Option.some.injEq, Prod.mk.injEq] at H; obtain ⟨rfl, rfl, rfl⟩ := H
   go_enter Tryd.func8, Tryd.ntmps8
   go_wp2_with (first | ((with_reducible refine gate_dst (N := 1) rfl ?_); refine zE 1 #[.int .i64 a0_0, .int .i64 a0_1, .int .i64 a0_2, .int .i64 a0_3] 23 ?_; intro gb147 hg w9 hbox hb; have BK147 := Aside0.mk (hbox); have GW147 := zg HB hg; have GE147 := GW147; replace HB := zh HB hb; clear hb hbox hg; obtain ⟨_, _, _, _, _, _, _, _⟩ := zc4 BK147) | ((with_reducible refine gate_callee (f := 12) rfl ?_); refine zG (some 12) Tryd.func12 #[.agg #[.int .i64 a0_0, .int .i64 a0_1, .int .i64 a0_2, .int .i64 a0_3]] ?_; (with_reducible refine (impl_IsIsland.calls a0_0 a0_1 a0_2 a0_3 true _ A2.out).mono ?_); rintro e w11 ⟨rfl, hb⟩; refine ⟨_, rfl, ?_⟩; replace BK147 := zb BK147 hb; replace HB := zh HB hb; clear hb; obtain ⟨_, _, _, _, _, _, _, _⟩ := zc4 BK147) | ((with_reducible refine gate_callee (f := 27) rfl ?_); refine zG (some 27) Tryd.func27 #[.int .i64 (wrap64 (a0_0 * a0_1)), .int .i64 (wrap64 ((wrap64 (a0_3 - a0_2)) * (wrap64 ((wrap64 (a0_3 - a0_2)) - 1))))] ?_; (with_reducible refine (impl_fraction.calls k (wrap64 (a0_0 * a0_1)) (wrap64 ((wrap64 (a0_3 - a0_2)) * (wrap64 ((wrap64 (a0_3 - a0_2)) - 1)))) t149 t150 t151 _ A8.out).mono ?_); rintro e w13 ⟨rfl, hb⟩; refine ⟨_, rfl, ?_⟩; replace BK147 := zb BK147 hb; replace HB := zh HB hb; clear hb))
   go_ret3
   exact ⟨zt, zy HB⟩
 ·replace c3 := Bool.eq_false_iff.mpr c3
  subst c3; rw [if_neg (show ¬ (false = true) by decide)] at H; simp only [Option.some.injEq, Prod.mk.injEq] at H; obtain ⟨rfl, rfl, rfl⟩ := H
  go_enter Tryd.func8, Tryd.ntmps8
  go_wp2_with (first | ((with_reducible refine gate_dst (N := 1) rfl ?_); refine zE 1 #[.int .i64 a0_0, .int .i64 a0_1, .int .i64 a0_2, .int .i64 a0_3] 23 ?_; intro gb147 hg w14 hbox hb; have BK147 := Aside0.mk (hbox); have GW147 := zg HB hg; have GE147 := GW147; replace HB := zh HB hb; clear hb hbox hg; obtain ⟨_, _, _, _, _, _, _, _⟩ := zc4 BK147) | ((with_reducible refine gate_callee (f := 12) rfl ?_); refine zG (some 12) Tryd.func12 #[.agg #[.int .i64 a0_0, .int .i64 a0_1, .int .i64 a0_2, .int .i64 a0_3]] ?_; (with_reducible refine (impl_IsIsland.calls a0_0 a0_1 a0_2 a0_3 false _ A2.out).mono ?_); rintro e w16 ⟨rfl, hb⟩; refine ⟨_, rfl, ?_⟩; replace BK147 := zb BK147 hb; replace HB := zh HB hb; clear hb))
  go_ret3
  exact ⟨zt, zy HB⟩


/-! ### spec_HigherByStep: function 9 -/
def spec_HigherByStep.f (k : Nat) (a0_0 : Int) (a0_1 : Int) (a0_2 : Int) (a0_3 : Int) : Option (Int × Int × Bool) := (spec_htGood.f k a0_0 a0_1 a0_2 a0_3).bind fun t153 => (if t153 = true then (if (wrap64 (a0_3 - a0_2)) = 1 then (some (0, 0, false)) else ((spec_clLow.f k (wrap64 (a0_0 * a0_1)) (wrap64 ((wrap64 (a0_3 - a0_2)) * (wrap64 ((wrap64 (a0_3 - a0_2)) - 1))))).bind fun bt154 => (some (bt154.1, bt154.2, true)))) else (some (0, 0, false)))
set_option maxHeartbeats 8000000 in
set_option maxRecDepth 100000 in
theorem spec_HigherByStep.calls (k : Nat) (a0_0 : Int) (a0_1 : Int) (a0_2 : Int) (a0_3 : Int) (r1 : Int) (r2 : Int) (r3 : Bool) (w : World) (h : spec_HigherByStep.f k a0_0 a0_1 a0_2 a0_3 = some (r1, r2, r3)) :
  Calls Tryd.prog 9 #[.agg #[.int .i64 a0_0, .int .i64 a0_1, .int .i64 a0_2, .int .i64 a0_3]] w fun e w' => e = .returned (.tuple #[.int .i64 r1, .int .i64 r2, .bool r3]) ∧ Below w.heap.size w w' := by
 have hu23 := Tryd.underlying23
 have HB := Aside0.mk (Below.refl w.heap.size w)
 have H : ((spec_htGood.f k a0_0 a0_1 a0_2 a0_3).bind fun t153 => (if t153 = true then (if (wrap64 (a0_3 - a0_2)) = 1 then (some (0, 0, false)) else ((spec_clLow.f k (wrap64 (a0_0 * a0_1)) (wrap64 ((wrap64 (a0_3 - a0_2)) * (wrap64 ((wrap64 (a0_3 - a0_2)) - 1))))).bind fun bt154 => (some (bt154.1, bt154.2, true)))) else (some (0, 0, false)))) = some (r1, r2, r3) := h
 clear h; replace H := Option.bind_eq_some_iff.mp H; obtain ⟨t153, A20, H⟩ := H; (try dsimp only at H); have A2 := Aside0.mk A20; clear A20
 by_cases c3 : t153 = true
 ·subst c3
  rw [if_pos rfl] at H
  by_cases c4 : (wrap64 (a0_3 - a0_2)) = 1
  ·rw [if_pos c4] at H
   have c4b0 : ((wrap64 (a0_3 - a0_2)) == 1) = true := beq_iff_eq.mpr c4
   have c4b1 : ((wrap64 (a0_3 - a0_2)) != 1) = false := bne_eq_false_iff_eq.mpr c4
   clear c4; simp only [Option.some.injEq, Prod.mk.injEq] at H; obtain ⟨rfl, rfl, rfl⟩ := H
   go_enter Tryd.func9, Tryd.ntmps9
   go_wp2_with (first | ((with_reducible refine gate_dst (N := 1) rfl ?_); refine zE 1 #[.int .i64 a0_0, .int .i64 a0_1, .int .i64 a0_2, .int .i64 a0_3] 23 ?_; intro gb152 hg w5 hbox hb; have BK152 := Aside0.mk (hbox); have GW152 := zg HB hg; have GE152 := GW152; replace HB := zh HB hb; clear hb hbox hg; obtain ⟨_, _, _, _, _, _, _, _⟩ := zc4 BK152) | ((with_reducible refine gate_callee (f := 28) rfl ?_); refine zG (some 9) Tryd.func28 #[.agg #[.int .i64 a0_0, .int .i64 a0_1, .int .i64 a0_2, .int .i64 a0_3]] ?_; (with_reducible refine (spec_htGood.calls k a0_0 a0_1 a0_2 a0_3 true _ A2.out).mono ?_); rintro e w7 ⟨rfl, hb⟩; refine ⟨_, rfl, ?_⟩; replace BK152 := zb BK152 hb; replace HB := zh HB hb; clear hb; obtain ⟨_, _, _, _, _, _, _, _⟩ := zc4 BK152))
   go_ret3
   exact ⟨zt, zy HB⟩
  ·rw [if_neg c4] at H
   have c4b0 : ((wrap64 (a0_3 - a0_2)) == 1) = false := beq_eq_false_iff_ne.mpr c4
   have c4b1 : ((wrap64 (a0_3 - a0_2)) != 1) = true := bne_iff_ne.mpr c4
   replace H := Option.bind_eq_some_iff.mp H; obtain ⟨⟨t154, t155⟩, A90, H⟩ := H
   replace H : (some (t154, t155, true)) = some (r1, r2, r3) := H
   have A9 := Aside0.mk A90; clear A90; simp only [Option.some.injEq, Prod.mk.injEq] at H; obtain ⟨rfl, rfl, rfl⟩ := H
   go_enter Tryd.func9, Tryd.ntmps9
   go_wp2_with (first | ((with_reducible refine gate_dst (N := 1) rfl ?_); refine zE 1 #[.int .i64 a0_0, .int .i64 a0_1, .int .i64 a0_2, .int .i64 a0_3] 23 ?_; intro gb152 hg w10 hbox hb; have BK152 := Aside0.mk (hbox); have GW152 := zg HB hg; have GE152 := GW152; replace HB := zh HB hb; clear hb hbox hg; obtain ⟨_, _, _, _, _, _, _, _⟩ := zc4 BK152) | ((with_reducible refine gate_callee (f := 28) rfl ?_); refine zG (some 9) Tryd.func28 #[.agg #[.int .i64 a0_0, .int .i64 a0_1, .int .i64 a0_2, .int .i64 a0_3]] ?_; (with_reducible refine (spec_htGood.calls k a0_0 a0_1 a0_2 a0_3 true _ A2.out).mono ?_); rintro e w12 ⟨rfl, hb⟩; refine ⟨_, rfl, ?_⟩; replace BK152 := zb BK152 hb; replace HB := zh HB hb; clear hb; obtain ⟨_, _, _, _, _, _, _, _⟩ := zc4 BK152) | ((with_reducible refine gate_callee (f := 31) rfl ?_); refine zG (some 34) Tryd.func31 #[.int .i64 (wrap64 (a0_0 * a0_1)), .int .i64 (wrap64 ((wrap64 (a0_3 - a0_2)) * (wrap64 ((wrap64 (a0_3 - a0_2)) - 1))))] ?_; (with_reducible refine (spec_clLow.calls k (wrap64 (a0_0 * a0_1)) (wrap64 ((wrap64 (a0_3 - a0_2)) * (wrap64 ((wrap64 (a0_3 - a0_2)) - 1)))) t154 t155 _ A9.out).mono ?_); rintro e w' ⟨rfl, ⟨nd, rfl⟩⟩; refine ⟨_, rfl, ?_⟩))
   go_ret3
   exact ⟨zt, zy HB⟩
 ·replace c3 := Bool.eq_false_iff.mpr c3
  subst c3; rw [if_neg (show ¬ (false = true) by decide)] at H; simp only [Option.some.injEq, Prod.mk.injEq] at H; obtain ⟨rfl, rfl, rfl⟩ := H
  go_enter Tryd.func9, Tryd.ntmps9
  go_wp2_with (first | ((with_reducible refine gate_dst (N := 1) rfl ?_); refine zE 1 #[.int .i64 a0_0, .int .i64 a0_1, .int .i64 a0_2, .int .i64 a0_3] 23 ?_; intro gb152 hg w14 hbox hb; have BK152 := Aside0.mk (hbox); have GW152 := zg HB hg; have GE152 := GW152; replace HB := zh HB hb; clear hb hbox hg; obtain ⟨_, _, _, _, _, _, _, _⟩ := zc4 BK152) | ((with_reducible refine gate_callee (f := 28) rfl ?_); refine zG (some 9) Tryd.func28 #[.agg #[.int .i64 a0_0, .int .i64 a0_1, .int .i64 a0_2, .int .i64 a0_3]] ?_; (with_reducible refine (spec_htGood.calls k a0_0 a0_1 a0_2 a0_3 false _ A2.out).mono ?_); rintro e w16 ⟨rfl, hb⟩; refine ⟨_, rfl, ?_⟩; replace BK152 := zb BK152 hb; replace HB := zh HB hb; clear hb))
  go_ret3
  exact ⟨zt, zy HB⟩


/-! ### strconv_Itoa_44: function 44 -/
/-- What these walks ask of the start-up code: the table of the powers of ten. -/
def LaidP (w : World) : Prop := Lib.TabIs Tryd.prog w "internal/strconv.uint64pow10" .u64 Lib.pow10Tab
theorem LaidP.below {w w' : World} (h : LaidP w) (hb : Below w.heap.size w w') : LaidP w' := by
 unfold LaidP Lib.TabIs World.var? at h ⊢
 cases hg : Tryd.prog.globalNamed "internal/strconv.uint64pow10" with
 | none => rw [hg] at h; simp at h
 | some g =>
  rw [hg] at h
  simp only [Option.bind_some] at h ⊢
  have hlt : g < w.heap.size := by
   rcases Nat.lt_or_ge g w.heap.size with h' | h'
   ·exact h'
   ·rw [Array.getElem?_eq_none h'] at h; cases h
  rw [hb.block g hlt]
  exact h
def strconv_Itoa_44.f (a0 : Int) : Option ByteArray := if -9223372036854775808 ≤ a0 ∧ a0 ≤ 9223372036854775807 then some ⟨(Lib.itoa a0).toArray⟩ else none
theorem strconv_Itoa_44.calls (a0 : Int) (r : ByteArray) (w : World) (hL_ : LaidP w) (h : strconv_Itoa_44.f a0 = some r) :
  Calls Tryd.prog 44 #[.int .i64 a0] w fun e w' => e = .returned (.string r) ∧ Below w.heap.size w w' := by
 unfold strconv_Itoa_44.f at h
 by_cases hb : -9223372036854775808 ≤ a0 ∧ a0 ≤ 9223372036854775807
 ·rw [if_pos hb] at h
  obtain rfl := Option.some.inj h
  refine (Tryd.strconv_Itoa a0 hb.1 hb.2 w hL_).mono fun e w' hh => ?_
  obtain ⟨rfl, k, os, rfl⟩ := hh
  refine ⟨rfl, ⟨rfl, rfl, rfl, ?_, fun i hi => ?_⟩⟩
  ·simp [Sort.grow, World.drewN]
  ·show (w.heap ++ os)[i]? = w.heap[i]?
   rw [Array.getElem?_append_left hi]
 ·rw [if_neg hb] at h
  cases h



/-! ### impl_text: function 32 -/
def impl_text.f (a0 : Int) : Option (ByteArray) := (strconv_Itoa_44.f a0).bind fun t175 => (some t175)
set_option maxHeartbeats 8000000 in
set_option maxRecDepth 100000 in
theorem impl_text.calls (a0 : Int) (r : ByteArray) (w : World) (hL_ : LaidP w) (h : impl_text.f a0 = some r) :
  Calls Tryd.prog 32 #[.int .i64 a0] w fun e w' => e = .returned (.string r) ∧ Below w.heap.size w w' := by
 have HL_ := Aside0.mk hL_; clear hL_
 have HB := Aside0.mk (Below.refl w.heap.size w)
 have H : ((strconv_Itoa_44.f a0).bind fun t175 => (some t175)) = some r := h
 clear h; replace H := Option.bind_eq_some_iff.mp H; obtain ⟨t175, A20, H⟩ := H
 replace H : (some t175) = some r := H
 have A2 := Aside0.mk A20; clear A20
 obtain rfl := Option.some.inj H
 go_enter Tryd.func32, Tryd.ntmps32
 go_wp2_with (first | ((with_reducible refine gate_callee (f := 44) rfl ?_); refine zG (some 4) Tryd.func44 #[.int .i64 a0] ?_; (with_reducible refine (strconv_Itoa_44.calls a0 t175 _ (LaidP.below HL_.out (zy HB)) A2.out).mono ?_); rintro e w3 ⟨rfl, hb⟩; refine ⟨_, rfl, ?_⟩; replace HB := zh HB hb; clear hb))
 go_ret
 exact ⟨zt, zy HB⟩


/-! ### impl_IslandText: function 10 -/
def impl_IslandText.f (a0_0 : Int) (a0_1 : Int) (a0_2 : Int) (a0_3 : Int) : Option (ByteArray × Bool) := (impl_IsIsland.f a0_0 a0_1 a0_2 a0_3).bind fun t177 => (if t177 = true then ((impl_text.f a0_0).bind fun t178 => (if t178.size + 1 ≤ 9223372036854775807 then ((impl_text.f a0_1).bind fun t179 => (if (t178 ++ (⟨#[124]⟩ : ByteArray)).size + t179.size ≤ 9223372036854775807 then (if ((t178 ++ (⟨#[124]⟩ : ByteArray)) ++ t179).size + 1 ≤ 9223372036854775807 then ((impl_text.f a0_2).bind fun t180 => (if (((t178 ++ (⟨#[124]⟩ : ByteArray)) ++ t179) ++ (⟨#[58]⟩ : ByteArray)).size + t180.size ≤ 9223372036854775807 then (if ((((t178 ++ (⟨#[124]⟩ : ByteArray)) ++ t179) ++ (⟨#[58]⟩ : ByteArray)) ++ t180).size + 1 ≤ 9223372036854775807 then ((impl_text.f a0_3).bind fun t181 => (if (((((t178 ++ (⟨#[124]⟩ : ByteArray)) ++ t179) ++ (⟨#[58]⟩ : ByteArray)) ++ t180) ++ (⟨#[47]⟩ : ByteArray)).size + t181.size ≤ 9223372036854775807 then (some ((((((t178 ++ (⟨#[124]⟩ : ByteArray)) ++ t179) ++ (⟨#[58]⟩ : ByteArray)) ++ t180) ++ (⟨#[47]⟩ : ByteArray)) ++ t181, true)) else (none))) else (none)) else (none))) else (none)) else (none))) else (none))) else (some ((⟨#[]⟩ : ByteArray), false)))
def impl_IslandText.T3 : Bool × List (List Nat × List Nat) := (true, [([], []), ([0], [0]), ([1], [1]), ([2], [2]), ([], []), ([4], [4]), ([5, 2], [5]), ([3, 6], [3, 6]), ([7], [7]), ([], []), ([9], [9]), ([10, 6], [10]), ([8, 11], [8, 11]), ([12], [12]), ([], []), ([14], [14]), ([15, 11], [15]), ([13, 16], [13, 16]), ([17, 16, 0, 1, 2, 3, 4, 5, 6, 7, 8, 9, 10, 11, 12, 13, 14, 15, 16, 17], [17]), ([18, 0, 1, 2, 3, 4, 5, 6, 7, 8, 9, 10, 11, 12, 13, 14, 15, 16, 17, 18], [])])
def impl_IslandText.B3 : List Nat := [0, 1, 3, 7, 0, 16, 55, 127, 255, 0, 512, 1655, 4095, 8191, 0, 16384, 52855, 131071, 262143, 524287]
theorem impl_IslandText.tab3 : rtab .any (opsOf Tryd.f10 3) = impl_IslandText.T3 := by kernel_rfl
theorem impl_IslandText.bits3 : waitsOk impl_IslandText.T3.2 impl_IslandText.B3 = true := by kernel_rfl
set_option maxHeartbeats 8000000 in
set_option maxRecDepth 100000 in
theorem impl_IslandText.calls (a0_0 : Int) (a0_1 : Int) (a0_2 : Int) (a0_3 : Int) (r1 : ByteArray) (r2 : Bool) (w : World) (hL_ : LaidP w) (h : impl_IslandText.f a0_0 a0_1 a0_2 a0_3 = some (r1, r2)) :
  Calls Tryd.prog 10 #[.agg #[.int .i64 a0_0, .int .i64 a0_1, .int .i64 a0_2, .int .i64 a0_3]] w fun e w' => e = .returned (.tuple #[.string r1, .bool r2]) ∧ Below w.heap.size w w' := by
 have HL_ := Aside0.mk hL_; clear hL_; have hu23 := Tryd.underlying23
 have HB := Aside0.mk (Below.refl w.heap.size w)
 have H : ((impl_IsIsland.f a0_0 a0_1 a0_2 a0_3).bind fun t177 => (if t177 = true then ((impl_text.f a0_0).bind fun t178 => (if t178.size + 1 ≤ 9223372036854775807 then ((impl_text.f a0_1).bind fun t179 => (if (t178 ++ (⟨#[124]⟩ : ByteArray)).size + t179.size ≤ 9223372036854775807 then (if ((t178 ++ (⟨#[124]⟩ : ByteArray)) ++ t179).size + 1 ≤ 9223372036854775807 then ((impl_text.f a0_2).bind fun t180 => (if (((t178 ++ (⟨#[124]⟩ : ByteArray)) ++ t179) ++ (⟨#[58]⟩ : ByteArray)).size + t180.size ≤ 9223372036854775807 then (if ((((t178 ++ (⟨#[124]⟩ : ByteArray)) ++ t179) ++ (⟨#[58]⟩ : ByteArray)) ++ t180).size + 1 ≤ 9223372036854775807 then ((impl_text.f a0_3).bind fun t181 => (if (((((t178 ++ (⟨#[124]⟩ : ByteArray)) ++ t179) ++ (⟨#[58]⟩ : ByteArray)) ++ t180) ++ (⟨#[47]⟩ : ByteArray)).size + t181.size ≤ 9223372036854775807 then (some ((((((t178 ++ (⟨#[124]⟩ : ByteArray)) ++ t179) ++ (⟨#[58]⟩ : ByteArray)) ++ t180) ++ (⟨#[47]⟩ : ByteArray)) ++ t181, true)) else (none))) else (none)) else (none))) else (none)) else (none))) else (none))) else (some ((⟨#[]⟩ : ByteArray), false)))) = some (r1, r2) := h
 clear h; replace H := Option.bind_eq_some_iff.mp H; obtain ⟨t177, A20, H⟩ := H; (try dsimp only at H); have A2 := Aside0.mk A20; clear A20
 by_cases c3 : t177 = true
 ·subst c3
  rw [if_pos rfl] at H; replace H := Option.bind_eq_some_iff.mp H; obtain ⟨t178, A40, H⟩ := H; (try dsimp only at H); have A4 := Aside0.mk A40; clear A40
  by_cases c5 : t178.size + 1 ≤ 9223372036854775807
  ·rw [if_pos c5] at H
   have c5b0 := eq_true c5
   have c5b1 : decide (t178.size + 1 ≤ 9223372036854775807) = true := decide_eq_true c5
   try have c5b2 : (9223372036854775807 < t178.size + 1) = False := eq_false (Nat.not_lt.2 c5)
   replace H := Option.bind_eq_some_iff.mp H; obtain ⟨t179, A60, H⟩ := H; (try dsimp only at H); have A6 := Aside0.mk A60; clear A60
   by_cases c7 : (t178 ++ (⟨#[124]⟩ : ByteArray)).size + t179.size ≤ 9223372036854775807
   ·rw [if_pos c7] at H
    have c7b0 := eq_true c7
    have c7b1 : decide ((t178 ++ (⟨#[124]⟩ : ByteArray)).size + t179.size ≤ 9223372036854775807) = true := decide_eq_true c7
    try have c7b2 : (9223372036854775807 < (t178 ++ (⟨#[124]⟩ : ByteArray)).size + t179.size) = False := eq_false (Nat.not_lt.2 c7)
    try (have c7b2s := Nat.not_lt.2 c7; simp only [ByteArray.size_append, show (⟨#[124]⟩ : ByteArray).size = 1 from rfl, show (⟨#[47]⟩ : ByteArray).size = 1 from rfl, show (⟨#[58]⟩ : ByteArray).size = 1 from rfl, show (⟨#[]⟩ : ByteArray).size = 0 from rfl] at c7b2s; replace c7b2s := eq_false c7b2s)
    by_cases c8 : ((t178 ++ (⟨#[124]⟩ : ByteArray)) ++ t179).size + 1 ≤ 9223372036854775807
    ·rw [if_pos c8] at H
     have c8b0 := eq_true c8
     have c8b1 : decide (((t178 ++ (⟨#[124]⟩ : ByteArray)) ++ t179).size + 1 ≤ 9223372036854775807) = true := decide_eq_true c8
     try have c8b2 : (9223372036854775807 < ((t178 ++ (⟨#[124]⟩ : ByteArray)) ++ t179).size + 1) = False := eq_false (Nat.not_lt.2 c8)
     try (have c8b2s := Nat.not_lt.2 c8; simp only [ByteArray.size_append, show (⟨#[124]⟩ : ByteArray).size = 1 from rfl, show (⟨#[47]⟩ : ByteArray).size = 1 from rfl, show (⟨#[58]⟩ : ByteArray).size = 1 from rfl, show (⟨#[]⟩ : ByteArray).size = 0 from rfl] at c8b2s; replace c8b2s := eq_false c8b2s)
     replace H := Option.bind_eq_some_iff.mp H; obtain ⟨t180, A90, H⟩ := H; (try dsimp only at H); have A9 := Aside0.mk A90; clear A90
     by_cases c10 : (((t178 ++ (⟨#[124]⟩ : ByteArray)) ++ t179) ++ (⟨#[58]⟩ : ByteArray)).size + t180.size ≤ 9223372036854775807
     ·rw [if_pos c10] at H
      have c10b0 := eq_true c10
      have c10b1 : decide ((((t178 ++ (⟨#[124]⟩ : ByteArray)) ++ t179) ++ (⟨#[58]⟩ : ByteArray)).size + t180.size ≤ 9223372036854775807) = true := decide_eq_true c10
      try have c10b2 : (9223372036854775807 < (((t178 ++ (⟨#[124]⟩ : ByteArray)) ++ t179) ++ (⟨#[58]⟩ : ByteArray)).size + t180.size) = False := eq_false (Nat.not_lt.2 c10)
      try (have c10b2s := Nat.not_lt.2 c10; simp only [ByteArray.size_append, show (⟨#[124]⟩ : ByteArray).size = 1 from rfl, show (⟨#[47]⟩ : ByteArray).size = 1 from rfl, show (⟨#[58]⟩ : ByteArray).size = 1 from rfl, show (⟨#[]⟩ : ByteArray).size = 0 from rfl] at c10b2s; replace c10b2s := eq_false c10b2s)
      by_cases c11 : ((((t178 ++ (⟨#[124]⟩ : ByteArray)) ++ t179) ++ (⟨#[58]⟩ : ByteArray)) ++ t180).size + 1 ≤ 9223372036854775807
      ·rw [if_pos c11] at H
       have c11b0 := eq_true c11
       have c11b1 : decide (((((t178 ++ (⟨#[124]⟩ : ByteArray)) ++ t179) ++ (⟨#[58]⟩ : ByteArray)) ++ t180).size + 1 ≤ 9223372036854775807) = true := decide_eq_true c11
       try have c11b2 : (9223372036854775807 < ((((t178 ++ (⟨#[124]⟩ : ByteArray)) ++ t179) ++ (⟨#[58]⟩ : ByteArray)) ++ t180).size + 1) = False := eq_false (Nat.not_lt.2 c11)
       try (have c11b2s := Nat.not_lt.2 c11; simp only [ByteArray.size_append, show (⟨#[124]⟩ : ByteArray).size = 1 from rfl, show (⟨#[47]⟩ : ByteArray).size = 1 from rfl, show (⟨#[58]⟩ : ByteArray).size = 1 from rfl, show (⟨#[]⟩ : ByteArray).size = 0 from rfl] at c11b2s; replace c11b2s := eq_false c11b2s)
       replace H := Option.bind_eq_some_iff.mp H; obtain ⟨t181, A120, H⟩ := H; (try dsimp only at H); have A12 := Aside0.mk A120; clear A120
       by_cases c13 : (((((t178 ++ (⟨#[124]⟩ : ByteArray)) ++ t179) ++ (⟨#[58]⟩ : ByteArray)) ++ t180) ++ (⟨#[47]⟩ : ByteArray)).size + t181.size ≤ 9223372036854775807
       ·rw [if_pos c13] at H
        have c13b0 := eq_true c13
        have c13b1 : decide ((((((t178 ++ (⟨#[124]⟩ : ByteArray)) ++ t179) ++ (⟨#[58]⟩ : ByteArray)) ++ t180) ++ (⟨#[47]⟩ : ByteArray)).size + t181.size ≤ 9223372036854775807) = true := decide_eq_true c13
        try have c13b2 : (9223372036854775807 < (((((t178 ++ (⟨#[124]⟩ : ByteArray)) ++ t179) ++ (⟨#[58]⟩ : ByteArray)) ++ t180) ++ (⟨#[47]⟩ : ByteArray)).size + t181.size) = False := eq_false (Nat.not_lt.2 c13)
        try (have c13b2s := Nat.not_lt.2 c13; simp only [ByteArray.size_append, show (⟨#[124]⟩ : ByteArray).size = 1 from rfl, show (⟨#[47]⟩ : ByteArray).size = 1 from rfl, show (⟨#[58]⟩ : ByteArray).size = 1 from rfl, show (⟨#[]⟩ : ByteArray).size = 0 from rfl] at c13b2s; replace c13b2s := eq_false c13b2s)
        simp only [Option.some.injEq, Prod.mk.injEq] at H; obtain ⟨rfl, rfl⟩ := H
        go_enter Tryd.func10, Tryd.ntmps10
        try go_wp2_with (first | ((with_reducible refine gate_dst (N := 1) rfl ?_); refine zE 1 #[.int .i64 a0_0, .int .i64 a0_1, .int .i64 a0_2, .int .i64 a0_3] 23 ?_; intro gb176 hg w14 hbox hb; have BK176 := Aside0.mk (hbox); have GW176 := zg HB hg; have GE176 := GW176; replace HB := zh HB hb; clear hb hbox hg; obtain ⟨_, _, _, _, _, _, _, _⟩ := zc4 BK176) | ((with_reducible refine gate_callee (f := 12) rfl ?_); refine zG (some 5) Tryd.func12 #[.agg #[.int .i64 a0_0, .int .i64 a0_1, .int .i64 a0_2, .int .i64 a0_3]] ?_; (with_reducible refine (impl_IsIsland.calls a0_0 a0_1 a0_2 a0_3 true _ A2.out).mono ?_); rintro e w16 ⟨rfl, hb⟩; refine ⟨_, rfl, ?_⟩; replace BK176 := zb BK176 hb; replace HB := zh HB hb; clear hb))
        replace BK176 := Aside0.mk (blk_drew BK176.out); replace HB := Aside0.mk (below_drew1 HB.out)
        refine start_ (n := 20) (S := fun w' => w'.cell? ⟨gb176, 0, none⟩ = some (.int .i64 a0_0) ∧ w'.cell? ⟨gb176, 1, none⟩ = some (.int .i64 a0_1) ∧ w'.cell? ⟨gb176, 2, none⟩ = some (.int .i64 a0_2) ∧ w'.cell? ⟨gb176, 3, none⟩ = some (.int .i64 a0_3)) (ds := []) #[false, false, false, false, false, false, false, false, false, false, false, false, false, false, false, false, false, false, false, false] (by kernel_rfl) rfl rfl ⟨(blk_cell BK176.out 0).trans rfl, (blk_cell BK176.out 1).trans rfl, (blk_cell BK176.out 2).trans rfl, (blk_cell BK176.out 3).trans rfl⟩ (fun hHeld => ?_); refine with_tabW impl_IslandText.tab3 impl_IslandText.bits3 (fun HT_ HW_ => ?_)
        generalize w16.drew = w17 at BK176 HB hHeld ⊢
        refine zA 0 7 HT_ ?_
        refine zA 4 11 HT_ ?_
        refine zA 9 16 HT_ ?_
        refine zA 14 21 HT_ ?_
        refine zT 1 8 HT_ HW_ hHeld ?_
        refine zT 5 12 HT_ HW_ hHeld ?_
        refine zT 10 17 HT_ HW_ hHeld ?_
        refine zT 15 22 HT_ HW_ hHeld ?_
        refine zO 2 (some 9) HT_ (fun K hK => ?_)
        refine goes_ Tryd.func32 (by kernel_rfl) rfl #[.int .i64 a0_0] (by rfl) rfl rfl zO0_0 ?_
        with_reducible refine (impl_text.calls a0_0 t178 _ (LaidP.below HL_.out (zy HB)) A4.out).mono ?_
        rintro e w18 ⟨rfl, hb⟩
        refine ⟨_, rfl, ?_⟩
        replace BK176 := zb BK176 hb; replace HB := zh HB hb
        (try clear hb)
        (try clear hb2)
        (try clear hk)
        (try clear hi)
        refine hK.out _ _ ⟨(blk_cell BK176.out 0).trans rfl, (blk_cell BK176.out 1).trans rfl, (blk_cell BK176.out 2).trans rfl, (blk_cell BK176.out 3).trans rfl⟩ (fun hHeld => ?_)
        clear hK K
        refine zN 9 ?_
        refine zA 3 10 HT_ ?_
        refine zO 6 (some 13) HT_ (fun K hK => ?_)
        refine goes_ Tryd.func32 (by kernel_rfl) rfl #[.int .i64 a0_1] (by rfl) rfl rfl zO0_0 ?_
        with_reducible refine (impl_text.calls a0_1 t179 _ (LaidP.below HL_.out (zy HB)) A6.out).mono ?_
        rintro e w19 ⟨rfl, hb⟩
        refine ⟨_, rfl, ?_⟩
        replace BK176 := zb BK176 hb; replace HB := zh HB hb
        (try clear hb)
        (try clear hb2)
        (try clear hk)
        (try clear hi)
        refine hK.out _ _ ⟨(blk_cell BK176.out 0).trans rfl, (blk_cell BK176.out 1).trans rfl, (blk_cell BK176.out 2).trans rfl, (blk_cell BK176.out 3).trans rfl⟩ (fun hHeld => ?_)
        clear hK K
        refine zN 13 ?_
        refine zA 7 14 HT_ ?_
        refine zA 8 15 HT_ ?_
        refine zO 11 (some 18) HT_ (fun K hK => ?_)
        refine goes_ Tryd.func32 (by kernel_rfl) rfl #[.int .i64 a0_2] (by rfl) rfl rfl zO0_0 ?_
        with_reducible refine (impl_text.calls a0_2 t180 _ (LaidP.below HL_.out (zy HB)) A9.out).mono ?_
        rintro e w20 ⟨rfl, hb⟩
        refine ⟨_, rfl, ?_⟩
        replace BK176 := zb BK176 hb; replace HB := zh HB hb
        (try clear hb)
        (try clear hb2)
        (try clear hk)
        (try clear hi)
        refine hK.out _ _ ⟨(blk_cell BK176.out 0).trans rfl, (blk_cell BK176.out 1).trans rfl, (blk_cell BK176.out 2).trans rfl, (blk_cell BK176.out 3).trans rfl⟩ (fun hHeld => ?_)
        clear hK K
        refine zN 18 ?_
        refine zA 12 19 HT_ ?_
        refine zA 13 20 HT_ ?_
        refine zO 16 (some 23) HT_ (fun K hK => ?_)
        refine goes_ Tryd.func32 (by kernel_rfl) rfl #[.int .i64 a0_3] (by rfl) rfl rfl zO0_0 ?_
        with_reducible refine (impl_text.calls a0_3 t181 _ (LaidP.below HL_.out (zy HB)) A12.out).mono ?_
        rintro e w21 ⟨rfl, hb⟩
        refine ⟨_, rfl, ?_⟩
        replace BK176 := zb BK176 hb; replace HB := zh HB hb
        (try clear hb)
        (try clear hb2)
        (try clear hk)
        (try clear hi)
        refine hK.out _ _ ⟨(blk_cell BK176.out 0).trans rfl, (blk_cell BK176.out 1).trans rfl, (blk_cell BK176.out 2).trans rfl, (blk_cell BK176.out 3).trans rfl⟩ (fun hHeld => ?_)
        clear hK K
        refine zN 23 ?_
        refine zA 17 24 HT_ ?_
        refine zA 18 2 HT_ ?_
        refine zA 19 3 HT_ ?_
        refine done_ (done_of HT_.out (by kernel_rfl)) ?_
        try go_wp2
        go_ret2
        exact ⟨zt, zy HB⟩
       ·rw [if_neg c13] at H
        exact absurd H zO0_6
      ·rw [if_neg c11] at H
       exact absurd H zO0_6
     ·rw [if_neg c10] at H
      exact absurd H zO0_6
    ·rw [if_neg c8] at H
     exact absurd H zO0_6
   ·rw [if_neg c7] at H
    exact absurd H zO0_6
  ·rw [if_neg c5] at H
   exact absurd H zO0_6
 ·replace c3 := Bool.eq_false_iff.mpr c3
  subst c3; rw [if_neg (show ¬ (false = true) by decide)] at H; simp only [Option.some.injEq, Prod.mk.injEq] at H; obtain ⟨rfl, rfl⟩ := H
  go_enter Tryd.func10, Tryd.ntmps10
  go_wp2_with (first | ((with_reducible refine gate_dst (N := 1) rfl ?_); refine zE 1 #[.int .i64 a0_0, .int .i64 a0_1, .int .i64 a0_2, .int .i64 a0_3] 23 ?_; intro gb176 hg w22 hbox hb; have BK176 := Aside0.mk (hbox); have GW176 := zg HB hg; have GE176 := GW176; replace HB := zh HB hb; clear hb hbox hg; obtain ⟨_, _, _, _, _, _, _, _⟩ := zc4 BK176) | ((with_reducible refine gate_callee (f := 12) rfl ?_); refine zG (some 5) Tryd.func12 #[.agg #[.int .i64 a0_0, .int .i64 a0_1, .int .i64 a0_2, .int .i64 a0_3]] ?_; (with_reducible refine (impl_IsIsland.calls a0_0 a0_1 a0_2 a0_3 false _ A2.out).mono ?_); rintro e w24 ⟨rfl, hb⟩; refine ⟨_, rfl, ?_⟩; replace BK176 := zb BK176 hb; replace HB := zh HB hb; clear hb))
  go_ret2
  exact ⟨zt, zy HB⟩


/-! ### spec_l1Num: function 45 -/
def spec_l1Num.f : Nat → Int → Option (ByteArray)
 | 0, _ => none
 | k + 1, a0 => if a0 < 10 then (some (strOfNums (([(wrap64 (48 + a0)) % 256] : List Int)))) else ((spec_l1Num.f k (wrap64 (Int.tdiv a0 10))).bind fun t185 => ((some (([(wrap64 (48 + (Int.tmod a0 10))) % 256] : List Int) : List Int)).bind fun y186 => (if t185.size + (strOfNums y186).size ≤ 9223372036854775807 then (some (t185 ++ (strOfNums y186))) else (none))))
def spec_l1Num.T3 : Bool × List (List Nat × List Nat) := (true, [([], []), ([0], [0]), ([1], [1]), ([], []), ([3], [3]), ([4], [4]), ([5], [5]), ([6], [6]), ([7], [7]), ([2, 8], [2, 8]), ([9, 2, 0, 1, 2, 3, 4, 5, 6, 7, 8, 9], [9])])
def spec_l1Num.B3 : List Nat := [0, 1, 3, 0, 8, 24, 56, 120, 248, 511, 1023]
theorem spec_l1Num.tab3 : rtab .any (opsOf Tryd.f45 3) = spec_l1Num.T3 := by kernel_rfl
theorem spec_l1Num.bits3 : waitsOk spec_l1Num.T3.2 spec_l1Num.B3 = true := by kernel_rfl
set_option maxHeartbeats 8000000 in
set_option maxRecDepth 100000 in
theorem spec_l1Num.calls (k : Nat) : ∀ (a0 : Int) (r : ByteArray) (w : World) (h : spec_l1Num.f k a0 = some r),
  Calls Tryd.prog 45 #[.int .i64 a0] w fun e w' => e = .returned (.string r) ∧ Below w.heap.size w w' := by
 induction k using Nat.strongRecOn with
 | _ k ih =>
 intro a0 r w h
 cases k with
 | zero => exact absurd h (by simp [spec_l1Num.f])
 | succ k =>
 simp only [spec_l1Num.f] at h
 have HB := Aside0.mk (Below.refl w.heap.size w)
 have H : (if a0 < 10 then (some (strOfNums (([(wrap64 (48 + a0)) % 256] : List Int)))) else ((spec_l1Num.f k (wrap64 (Int.tdiv a0 10))).bind fun t185 => ((some (([(wrap64 (48 + (Int.tmod a0 10))) % 256] : List Int) : List Int)).bind fun y186 => (if t185.size + (strOfNums y186).size ≤ 9223372036854775807 then (some (t185 ++ (strOfNums y186))) else (none))))) = some r := h
 clear h
 by_cases c2 : a0 < 10
 ·rw [if_pos c2] at H
  have c2b0 : decide (a0 < 10) = true := decide_eq_true c2; clear c2
  obtain ⟨y182, hy182⟩ : ∃ y_ : List Int, y_ = (([(wrap64 (48 + a0)) % 256] : List Int)) := ⟨_, rfl⟩
  replace H : (some (strOfNums y182)) = some r := by first | (rw [hy182]; with_reducible exact H) | (have H2_ := (Option.bind_some _ _).symm.trans H; rw [hy182]; with_reducible exact H2_) | (have H2_ := (Option.bind_some _ _).symm.trans H; with_reducible exact H2_) | with_reducible exact H | (rw [hy182]; exact H) | exact H
  have Ny182 := Aside0.mk hy182; clear hy182
  obtain rfl := Option.some.inj H
  go_enter Tryd.func45, Tryd.ntmps45
  go_wp2_with (first | ((with_reducible refine gate_dst (N := 8) rfl ?_); refine Kd.R_lit (Kd.int .u8) _ 5 ?hg (N := 8) ?hd (xs := ([(wrap64 (48 + a0)) % 256] : List Int)) (inner := [.int .u8 ((wrap64 (48 + a0)) % 256)]) (ok := fun _ => True) (okp := fun _ => True) ?hr ?hp (fun _ hk => hk) trivial (Below.refl _ _) (Nat.le_refl _) zO0_6 ?_; (case hd => rfl); (case hg => rfl); (case hr => first | (go_simp; done) | (go_simp; rfl)); (case hp => exact (Reps.one (show Kd.M (Kd.int .u8) _ _ _ ((wrap64 (48 + a0)) % 256) [.int .u8 ((wrap64 (48 + a0)) % 256)] from rfl) (Reps.none _ _))); intro v183 w3 ho4 hb hg_ hnew_; clear hg_ hnew_; (first | rw [← Ny182.out] at ho4 | (simp only [Int.reduceToNat] at ho4; rw [← Ny182.out] at ho4)); have HO184 := Aside0.mk (Kd.R_lower ho4 (below_size (zy HB))); replace HB := zh HB hb; clear hb ho4; have hcv5 := own_string (P := Tryd.prog) Tryd.underlying68 Tryd.underlying5 Tryd.underlying9 (Kd.own_of_R HO184.out)))
  go_ret
  exact ⟨zt, zy HB⟩
 ·rw [if_neg c2] at H
  have c2b0 : decide (a0 < 10) = false := decide_eq_false c2; clear c2; replace H := Option.bind_eq_some_iff.mp H; obtain ⟨t185, A60, H⟩ := H; (try dsimp only at H); have A6 := Aside0.mk A60; clear A60
  obtain ⟨y186, hy186⟩ : ∃ y_ : List Int, y_ = (([(wrap64 (48 + (Int.tmod a0 10))) % 256] : List Int)) := ⟨_, rfl⟩
  replace H : (if t185.size + (strOfNums y186).size ≤ 9223372036854775807 then (some (t185 ++ (strOfNums y186))) else (none)) = some r := by first | (rw [hy186]; with_reducible exact H) | (have H2_ := (Option.bind_some _ _).symm.trans H; rw [hy186]; with_reducible exact H2_) | (have H2_ := (Option.bind_some _ _).symm.trans H; with_reducible exact H2_) | with_reducible exact H | (rw [hy186]; exact H) | exact H
  have Ny186 := Aside0.mk hy186; clear hy186
  by_cases c7 : t185.size + (strOfNums y186).size ≤ 9223372036854775807
  ·rw [if_pos c7] at H
   have c7b0 := eq_true c7
   have c7b1 : decide (t185.size + (strOfNums y186).size ≤ 9223372036854775807) = true := decide_eq_true c7
   try have c7b2 : (9223372036854775807 < t185.size + (strOfNums y186).size) = False := eq_false (Nat.not_lt.2 c7)
   obtain rfl := Option.some.inj H
   go_enter Tryd.func45, Tryd.ntmps45
   try go_wp2
   replace HB := Aside0.mk (below_drew1 HB.out)
   refine start_ (n := 11) (S := fun w' => True) (ds := []) #[false, false, false, false, false, false, false, false, false, false, false] (by kernel_rfl) rfl rfl trivial (fun hHeld => ?_); refine with_tabW spec_l1Num.tab3 spec_l1Num.bits3 (fun HT_ HW_ => ?_)
   generalize w.drew = w8 at HB hHeld ⊢
   refine zA 0 10 HT_ ?_
   refine zA 1 11 HT_ ?_
   refine zA 3 13 HT_ ?_
   refine zA 4 14 HT_ ?_
   refine zA 5 15 HT_ ?_
   refine zA 6 16 HT_ ?_
   refine join_ (σ := Value) 2 #[true, true, true, true, true, true, true, true, true, false, false] (fun s_ => [(12, .string t185), (17, s_), (18, .string (strOfNums y186))]) (fun s_ w' => (Kd.R (Kd.int .u8) 5 w' w.heap.size (fun _ => True) s_ y186) ∧ (Below w.heap.size w w')) ?_ ?_
   rotate_left
   ·intro hCont
    refine two_ (i := 2) (j := 7) (Ni := some 12) (Nj := some 17) #[true, true, true, true, true, true, true, false, false, false, false] #[true, true, false, true, true, true, true, true, false, false, false] rfl rfl rfl rfl (two_of HT_.out (by kernel_rfl)) (by decide) (by decide) (fun K hK => ?_) (fun K hK => ?_)
    ·skip
     refine goes_ Tryd.func45 (by kernel_rfl) rfl #[.int .i64 (wrap64 (Int.tdiv a0 10))] (by rfl) rfl rfl zO0_0 ?_
     with_reducible refine (ih k (by omega) (wrap64 (Int.tdiv a0 10)) t185 _ A6.out).mono ?_
     rintro e w9 ⟨rfl, hb⟩
     refine ⟨_, rfl, ?_⟩
     replace HB := zh HB hb
     (try clear hb)
     (try clear hb2)
     (try clear hk)
     (try clear hi)
     refine hK.out _ _ trivial (fun hHeld => ?_)
     clear hK K
     refine zN 12 ?_
     refine zO 7 (some 17) HT_ (fun K hK => ?_)
     refine Kd.R_lit_step (Kd.int .u8) _ 5 ?hg (N := 17) ?hd (xs := ([(wrap64 (48 + (Int.tmod a0 10))) % 256] : List Int)) (inner := [.int .u8 ((wrap64 (48 + (Int.tmod a0 10))) % 256)]) (ok := fun _ => True) (okp := fun _ => True) ?hr ?hp (fun _ hk => hk) trivial (Below.refl _ _) (Nat.le_refl _) zO0_6 ?_; (case hd => rfl); (case hg => rfl); (case hr => first | (go_simp; done) | (go_simp; rfl)); (case hp => exact (Reps.one (show Kd.M (Kd.int .u8) _ _ _ ((wrap64 (48 + (Int.tmod a0 10))) % 256) [.int .u8 ((wrap64 (48 + (Int.tmod a0 10))) % 256)] from rfl) (Reps.none _ _)))
     intro v187 w10 ho11 hb hg_ hnew_
     clear hg_ hnew_
     (first | rw [← Ny186.out] at ho11 | (simp only [Int.reduceToNat] at ho11; rw [← Ny186.out] at ho11))
     have HO188 := Aside0.mk (Kd.R_lower ho11 (below_size (zy HB)))
     replace HB := zh HB hb; clear hb ho11
     refine hK.out _ _ trivial (fun hHeld => ?_)
     clear hK K
     refine zN 17 ?_
     refine zO 8 (some 18) HT_ (fun K hK => ?_)
     have hcv12 := own_string (P := Tryd.prog) Tryd.underlying68 Tryd.underlying5 Tryd.underlying9 (Kd.own_of_R HO188.out)
     refine value_ (w1 := ?_) (v := ?_) (by rfl) rfl ?_ ?_
     rotate_left 2
     ·go_simp
      constructor
      ·rfl
      ·rfl
     clear hcv12
     refine hK.out _ _ trivial (fun hHeld => ?_)
     clear hK K
     refine zN 18 ?_
     exact norm_ zO0_2 (hCont (v187) _ ⟨(zs HO188), (zy HB)⟩)
    ·skip
     refine Kd.R_lit_step (Kd.int .u8) _ 5 ?hg (N := 17) ?hd (xs := ([(wrap64 (48 + (Int.tmod a0 10))) % 256] : List Int)) (inner := [.int .u8 ((wrap64 (48 + (Int.tmod a0 10))) % 256)]) (ok := fun _ => True) (okp := fun _ => True) ?hr ?hp (fun _ hk => hk) trivial (Below.refl _ _) (Nat.le_refl _) zO0_6 ?_; (case hd => rfl); (case hg => rfl); (case hr => first | (go_simp; done) | (go_simp; rfl)); (case hp => exact (Reps.one (show Kd.M (Kd.int .u8) _ _ _ ((wrap64 (48 + (Int.tmod a0 10))) % 256) [.int .u8 ((wrap64 (48 + (Int.tmod a0 10))) % 256)] from rfl) (Reps.none _ _)))
     intro v187 w9 ho10 hb hg_ hnew_
     clear hg_ hnew_
     (first | rw [← Ny186.out] at ho10 | (simp only [Int.reduceToNat] at ho10; rw [← Ny186.out] at ho10))
     have HO188 := Aside0.mk (Kd.R_lower ho10 (below_size (zy HB)))
     replace HB := zh HB hb; clear hb ho10
     refine hK.out _ _ trivial (fun hHeld => ?_)
     clear hK K
     refine zN 17 ?_
     refine two_ (i := 2) (j := 8) (Ni := some 12) (Nj := some 18) #[true, true, true, true, true, true, true, true, false, false, false] #[true, true, false, true, true, true, true, true, true, false, false] rfl rfl rfl rfl (two_of HT_.out (by kernel_rfl)) (by decide) (by decide) (fun K hK => ?_) (fun K hK => ?_)
     ·skip
      refine goes_ Tryd.func45 (by kernel_rfl) rfl #[.int .i64 (wrap64 (Int.tdiv a0 10))] (by rfl) rfl rfl zO0_0 ?_
      with_reducible refine (ih k (by omega) (wrap64 (Int.tdiv a0 10)) t185 _ A6.out).mono ?_
      rintro e w11 ⟨rfl, hb⟩
      refine ⟨_, rfl, ?_⟩
      replace HO188 := zo HO188 hb; replace HB := zh HB hb
      (try clear hb)
      (try clear hb2)
      (try clear hk)
      (try clear hi)
      refine hK.out _ _ trivial (fun hHeld => ?_)
      clear hK K
      refine zN 12 ?_
      refine zO 8 (some 18) HT_ (fun K hK => ?_)
      have hcv12 := own_string (P := Tryd.prog) Tryd.underlying68 Tryd.underlying5 Tryd.underlying9 (Kd.own_of_R HO188.out)
      refine value_ (w1 := ?_) (v := ?_) (by rfl) rfl ?_ ?_
      rotate_left 2
      ·go_simp
       constructor
       ·rfl
       ·rfl
      clear hcv12
      refine hK.out _ _ trivial (fun hHeld => ?_)
      clear hK K
      refine zN 18 ?_
      exact norm_ zO0_2 (hCont (v187) _ ⟨(zs HO188), (zy HB)⟩)
     ·skip
      have hcv11 := own_string (P := Tryd.prog) Tryd.underlying68 Tryd.underlying5 Tryd.underlying9 (Kd.own_of_R HO188.out)
      refine value_ (w1 := ?_) (v := ?_) (by rfl) rfl ?_ ?_
      rotate_left 2
      ·go_simp
       constructor
       ·rfl
       ·rfl
      clear hcv11
      refine hK.out _ _ trivial (fun hHeld => ?_)
      clear hK K
      refine zN 18 ?_
      refine zO 2 (some 12) HT_ (fun K hK => ?_)
      refine goes_ Tryd.func45 (by kernel_rfl) rfl #[.int .i64 (wrap64 (Int.tdiv a0 10))] (by rfl) rfl rfl zO0_0 ?_
      with_reducible refine (ih k (by omega) (wrap64 (Int.tdiv a0 10)) t185 _ A6.out).mono ?_
      rintro e w12 ⟨rfl, hb⟩
      refine ⟨_, rfl, ?_⟩
      replace HO188 := zo HO188 hb; replace HB := zh HB hb
      (try clear hb)
      (try clear hb2)
      (try clear hk)
      (try clear hi)
      refine hK.out _ _ trivial (fun hHeld => ?_)
      clear hK K
      refine zN 12 ?_
      exact norm_ zO0_2 (hCont (v187) _ ⟨(zs HO188), (zy HB)⟩)
   rintro v187 w13 ⟨h0_, h1_⟩
   have n0_ : Aside0 (Kd.R (Kd.int .u8) 5 w13 w.heap.size (fun _ => True) v187 y186) := ⟨h0_⟩
   have n1_ : Aside0 (Below w.heap.size w w13) := ⟨h1_⟩
   clear HB; clear h0_ h1_; have HO188 := n0_; have HB := n1_; clear n0_ n1_; have hHeld := trivial
   refine norm_ (a' := ?_) ?_ ?_
   rotate_left
   ·simp only [putAll, Act.put, List.setIfInBounds_toArray, List.set_cons_zero, List.set_cons_succ]
    rfl
   refine zA 9 19 HT_ ?_
   refine zA 10 2 HT_ ?_
   refine done_ (done_of HT_.out (by kernel_rfl)) ?_
   try go_wp2
   go_ret
   exact ⟨zt, zy HB⟩
  ·rw [if_neg c7] at H
   exact absurd H zO0_6


/-! ### spec_htText: function 33 -/
def spec_htText.f (k : Nat) (a0_0 : Int) (a0_1 : Int) (a0_2 : Int) (a0_3 : Int) : Option (ByteArray) := (spec_l1Num.f k a0_0).bind fun t190 => (if t190.size + 1 ≤ 9223372036854775807 then ((spec_l1Num.f k a0_1).bind fun t191 => (if (t190 ++ (⟨#[124]⟩ : ByteArray)).size + t191.size ≤ 9223372036854775807 then (if ((t190 ++ (⟨#[124]⟩ : ByteArray)) ++ t191).size + 1 ≤ 9223372036854775807 then ((spec_l1Num.f k a0_2).bind fun t192 => (if (((t190 ++ (⟨#[124]⟩ : ByteArray)) ++ t191) ++ (⟨#[58]⟩ : ByteArray)).size + t192.size ≤ 9223372036854775807 then (if ((((t190 ++ (⟨#[124]⟩ : ByteArray)) ++ t191) ++ (⟨#[58]⟩ : ByteArray)) ++ t192).size + 1 ≤ 9223372036854775807 then ((spec_l1Num.f k a0_3).bind fun t193 => (if (((((t190 ++ (⟨#[124]⟩ : ByteArray)) ++ t191) ++ (⟨#[58]⟩ : ByteArray)) ++ t192) ++ (⟨#[47]⟩ : ByteArray)).size + t193.size ≤ 9223372036854775807 then (some ((((((t190 ++ (⟨#[124]⟩ : ByteArray)) ++ t191) ++ (⟨#[58]⟩ : ByteArray)) ++ t192) ++ (⟨#[47]⟩ : ByteArray)) ++ t193)) else (none))) else (none)) else (none))) else (none)) else (none))) else (none))
def spec_htText.T1 : Bool × List (List Nat × List Nat) := (true, [([], []), ([0], [0]), ([1], [1]), ([2], [2]), ([], []), ([4], [4]), ([5, 2], [5]), ([3, 6], [3, 6]), ([7], [7]), ([], []), ([9], [9]), ([10, 6], [10]), ([8, 11], [8, 11]), ([12], [12]), ([], []), ([14], [14]), ([15, 11], [15]), ([13, 16], [13, 16]), ([17, 16, 0, 1, 2, 3, 4, 5, 6, 7, 8, 9, 10, 11, 12, 13, 14, 15, 16, 17], [17])])
def spec_htText.B1 : List Nat := [0, 1, 3, 7, 0, 16, 55, 127, 255, 0, 512, 1655, 4095, 8191, 0, 16384, 52855, 131071, 262143]
theorem spec_htText.tab1 : rtab .any (opsOf Tryd.f33 1) = spec_htText.T1 := by kernel_rfl
theorem spec_htText.bits1 : waitsOk spec_htText.T1.2 spec_htText.B1 = true := by kernel_rfl
set_option maxHeartbeats 8000000 in
set_option maxRecDepth 100000 in
theorem spec_htText.calls (k : Nat) (a0_0 : Int) (a0_1 : Int) (a0_2 : Int) (a0_3 : Int) (r : ByteArray) (w : World) (h : spec_htText.f k a0_0 a0_1 a0_2 a0_3 = some r) :
  Calls Tryd.prog 33 #[.agg #[.int .i64 a0_0, .int .i64 a0_1, .int .i64 a0_2, .int .i64 a0_3]] w fun e w' => e = .returned (.string r) ∧ Below w.heap.size w w' := by
 have hu23 := Tryd.underlying23
 have HB := Aside0.mk (Below.refl w.heap.size w)
 have H : ((spec_l1Num.f k a0_0).bind fun t190 => (if t190.size + 1 ≤ 9223372036854775807 then ((spec_l1Num.f k a0_1).bind fun t191 => (if (t190 ++ (⟨#[124]⟩ : ByteArray)).size + t191.size ≤ 9223372036854775807 then (if ((t190 ++ (⟨#[124]⟩ : ByteArray)) ++ t191).size + 1 ≤ 9223372036854775807 then ((spec_l1Num.f k a0_2).bind fun t192 => (if (((t190 ++ (⟨#[124]⟩ : ByteArray)) ++ t191) ++ (⟨#[58]⟩ : ByteArray)).size + t192.size ≤ 9223372036854775807 then (if ((((t190 ++ (⟨#[124]⟩ : ByteArray)) ++ t191) ++ (⟨#[58]⟩ : ByteArray)) ++ t192).size + 1 ≤ 9223372036854775807 then ((spec_l1Num.f k a0_3).bind fun t193 => (if (((((t190 ++ (⟨#[124]⟩ : ByteArray)) ++ t191) ++ (⟨#[58]⟩ : ByteArray)) ++ t192) ++ (⟨#[47]⟩ : ByteArray)).size + t193.size ≤ 9223372036854775807 then (some ((((((t190 ++ (⟨#[124]⟩ : ByteArray)) ++ t191) ++ (⟨#[58]⟩ : ByteArray)) ++ t192) ++ (⟨#[47]⟩ : ByteArray)) ++ t193)) else (none))) else (none)) else (none))) else (none)) else (none))) else (none))) = some r := h
 clear h; replace H := Option.bind_eq_some_iff.mp H; obtain ⟨t190, A20, H⟩ := H; (try dsimp only at H); have A2 := Aside0.mk A20; clear A20
 by_cases c3 : t190.size + 1 ≤ 9223372036854775807
 ·rw [if_pos c3] at H
  have c3b0 := eq_true c3
  have c3b1 : decide (t190.size + 1 ≤ 9223372036854775807) = true := decide_eq_true c3
  try have c3b2 : (9223372036854775807 < t190.size + 1) = False := eq_false (Nat.not_lt.2 c3)
  replace H := Option.bind_eq_some_iff.mp H; obtain ⟨t191, A40, H⟩ := H; (try dsimp only at H); have A4 := Aside0.mk A40; clear A40
  by_cases c5 : (t190 ++ (⟨#[124]⟩ : ByteArray)).size + t191.size ≤ 9223372036854775807
  ·rw [if_pos c5] at H
   have c5b0 := eq_true c5
   have c5b1 : decide ((t190 ++ (⟨#[124]⟩ : ByteArray)).size + t191.size ≤ 9223372036854775807) = true := decide_eq_true c5
   try have c5b2 : (9223372036854775807 < (t190 ++ (⟨#[124]⟩ : ByteArray)).size + t191.size) = False := eq_false (Nat.not_lt.2 c5)
   try (have c5b2s := Nat.not_lt.2 c5; simp only [ByteArray.size_append, show (⟨#[124]⟩ : ByteArray).size = 1 from rfl, show (⟨#[47]⟩ : ByteArray).size = 1 from rfl, show (⟨#[58]⟩ : ByteArray).size = 1 from rfl] at c5b2s; replace c5b2s := eq_false c5b2s)
   by_cases c6 : ((t190 ++ (⟨#[124]⟩ : ByteArray)) ++ t191).size + 1 ≤ 9223372036854775807
   ·rw [if_pos c6] at H
    have c6b0 := eq_true c6
    have c6b1 : decide (((t190 ++ (⟨#[124]⟩ : ByteArray)) ++ t191).size + 1 ≤ 9223372036854775807) = true := decide_eq_true c6
    try have c6b2 : (9223372036854775807 < ((t190 ++ (⟨#[124]⟩ : ByteArray)) ++ t191).size + 1) = False := eq_false (Nat.not_lt.2 c6)
    try (have c6b2s := Nat.not_lt.2 c6; simp only [ByteArray.size_append, show (⟨#[124]⟩ : ByteArray).size = 1 from rfl, show (⟨#[47]⟩ : ByteArray).size = 1 from rfl, show (⟨#[58]⟩ : ByteArray).size = 1 from rfl] at c6b2s; replace c6b2s := eq_false c6b2s)
    replace H := Option.bind_eq_some_iff.mp H; obtain ⟨t192, A70, H⟩ := H; (try dsimp only at H); have A7 := Aside0.mk A70; clear A70
    by_cases c8 : (((t190 ++ (⟨#[124]⟩ : ByteArray)) ++ t191) ++ (⟨#[58]⟩ : ByteArray)).size + t192.size ≤ 9223372036854775807
    ·rw [if_pos c8] at H
     have c8b0 := eq_true c8
     have c8b1 : decide ((((t190 ++ (⟨#[124]⟩ : ByteArray)) ++ t191) ++ (⟨#[58]⟩ : ByteArray)).size + t192.size ≤ 9223372036854775807) = true := decide_eq_true c8
     try have c8b2 : (9223372036854775807 < (((t190 ++ (⟨#[124]⟩ : ByteArray)) ++ t191) ++ (⟨#[58]⟩ : ByteArray)).size + t192.size) = False := eq_false (Nat.not_lt.2 c8)
     try (have c8b2s := Nat.not_lt.2 c8; simp only [ByteArray.size_append, show (⟨#[124]⟩ : ByteArray).size = 1 from rfl, show (⟨#[47]⟩ : ByteArray).size = 1 from rfl, show (⟨#[58]⟩ : ByteArray).size = 1 from rfl] at c8b2s; replace c8b2s := eq_false c8b2s)
     by_cases c9 : ((((t190 ++ (⟨#[124]⟩ : ByteArray)) ++ t191) ++ (⟨#[58]⟩ : ByteArray)) ++ t192).size + 1 ≤ 9223372036854775807
     ·rw [if_pos c9] at H
      have c9b0 := eq_true c9
      have c9b1 : decide (((((t190 ++ (⟨#[124]⟩ : ByteArray)) ++ t191) ++ (⟨#[58]⟩ : ByteArray)) ++ t192).size + 1 ≤ 9223372036854775807) = true := decide_eq_true c9
      try have c9b2 : (9223372036854775807 < ((((t190 ++ (⟨#[124]⟩ : ByteArray)) ++ t191) ++ (⟨#[58]⟩ : ByteArray)) ++ t192).size + 1) = False := eq_false (Nat.not_lt.2 c9)
      try (have c9b2s := Nat.not_lt.2 c9; simp only [ByteArray.size_append, show (⟨#[124]⟩ : ByteArray).size = 1 from rfl, show (⟨#[47]⟩ : ByteArray).size = 1 from rfl, show (⟨#[58]⟩ : ByteArray).size = 1 from rfl] at c9b2s; replace c9b2s := eq_false c9b2s)
      replace H := Option.bind_eq_some_iff.mp H; obtain ⟨t193, A100, H⟩ := H; (try dsimp only at H); have A10 := Aside0.mk A100; clear A100
      by_cases c11 : (((((t190 ++ (⟨#[124]⟩ : ByteArray)) ++ t191) ++ (⟨#[58]⟩ : ByteArray)) ++ t192) ++ (⟨#[47]⟩ : ByteArray)).size + t193.size ≤ 9223372036854775807
      ·rw [if_pos c11] at H
       have c11b0 := eq_true c11
       have c11b1 : decide ((((((t190 ++ (⟨#[124]⟩ : ByteArray)) ++ t191) ++ (⟨#[58]⟩ : ByteArray)) ++ t192) ++ (⟨#[47]⟩ : ByteArray)).size + t193.size ≤ 9223372036854775807) = true := decide_eq_true c11
       try have c11b2 : (9223372036854775807 < (((((t190 ++ (⟨#[124]⟩ : ByteArray)) ++ t191) ++ (⟨#[58]⟩ : ByteArray)) ++ t192) ++ (⟨#[47]⟩ : ByteArray)).size + t193.size) = False := eq_false (Nat.not_lt.2 c11)
       try (have c11b2s := Nat.not_lt.2 c11; simp only [ByteArray.size_append, show (⟨#[124]⟩ : ByteArray).size = 1 from rfl, show (⟨#[47]⟩ : ByteArray).size = 1 from rfl, show (⟨#[58]⟩ : ByteArray).size = 1 from rfl] at c11b2s; replace c11b2s := eq_false c11b2s)
       obtain rfl := Option.some.inj H
       go_enter Tryd.func33, Tryd.ntmps33
       try go_wp2_with (first | ((with_reducible refine gate_dst (N := 1) rfl ?_); refine zE 1 #[.int .i64 a0_0, .int .i64 a0_1, .int .i64 a0_2, .int .i64 a0_3] 23 ?_; intro gb189 hg w12 hbox hb; have BK189 := Aside0.mk (hbox); have GW189 := zg HB hg; have GE189 := GW189; replace HB := zh HB hb; clear hb hbox hg))
       replace BK189 := Aside0.mk (blk_drew BK189.out); replace HB := Aside0.mk (below_drew1 HB.out)
       refine start_ (n := 19) (S := fun w' => w'.cell? ⟨gb189, 0, none⟩ = some (.int .i64 a0_0) ∧ w'.cell? ⟨gb189, 1, none⟩ = some (.int .i64 a0_1) ∧ w'.cell? ⟨gb189, 2, none⟩ = some (.int .i64 a0_2) ∧ w'.cell? ⟨gb189, 3, none⟩ = some (.int .i64 a0_3)) (ds := []) #[false, false, false, false, false, false, false, false, false, false, false, false, false, false, false, false, false, false, false] (by kernel_rfl) rfl rfl ⟨(blk_cell BK189.out 0).trans rfl, (blk_cell BK189.out 1).trans rfl, (blk_cell BK189.out 2).trans rfl, (blk_cell BK189.out 3).trans rfl⟩ (fun hHeld => ?_); refine with_tabW spec_htText.tab1 spec_htText.bits1 (fun HT_ HW_ => ?_)
       generalize w12.drew = w13 at BK189 HB hHeld ⊢
       refine zA 0 3 HT_ ?_
       refine zA 4 7 HT_ ?_
       refine zA 9 12 HT_ ?_
       refine zA 14 17 HT_ ?_
       refine zT 1 4 HT_ HW_ hHeld ?_
       refine zT 5 8 HT_ HW_ hHeld ?_
       refine zT 10 13 HT_ HW_ hHeld ?_
       refine zT 15 18 HT_ HW_ hHeld ?_
       refine zO 2 (some 5) HT_ (fun K hK => ?_)
       refine goes_ Tryd.func45 (by kernel_rfl) rfl #[.int .i64 a0_0] (by rfl) rfl rfl zO0_0 ?_
       with_reducible refine (spec_l1Num.calls k a0_0 t190 _ A2.out).mono ?_
       rintro e w14 ⟨rfl, hb⟩
       refine ⟨_, rfl, ?_⟩
       replace BK189 := zb BK189 hb; replace HB := zh HB hb
       (try clear hb)
       (try clear hb2)
       (try clear hk)
       (try clear hi)
       refine hK.out _ _ ⟨(blk_cell BK189.out 0).trans rfl, (blk_cell BK189.out 1).trans rfl, (blk_cell BK189.out 2).trans rfl, (blk_cell BK189.out 3).trans rfl⟩ (fun hHeld => ?_)
       clear hK K
       refine zN 5 ?_
       refine zA 3 6 HT_ ?_
       refine zO 6 (some 9) HT_ (fun K hK => ?_)
       refine goes_ Tryd.func45 (by kernel_rfl) rfl #[.int .i64 a0_1] (by rfl) rfl rfl zO0_0 ?_
       with_reducible refine (spec_l1Num.calls k a0_1 t191 _ A4.out).mono ?_
       rintro e w15 ⟨rfl, hb⟩
       refine ⟨_, rfl, ?_⟩
       replace BK189 := zb BK189 hb; replace HB := zh HB hb
       (try clear hb)
       (try clear hb2)
       (try clear hk)
       (try clear hi)
       refine hK.out _ _ ⟨(blk_cell BK189.out 0).trans rfl, (blk_cell BK189.out 1).trans rfl, (blk_cell BK189.out 2).trans rfl, (blk_cell BK189.out 3).trans rfl⟩ (fun hHeld => ?_)
       clear hK K
       refine zN 9 ?_
       refine zA 7 10 HT_ ?_
       refine zA 8 11 HT_ ?_
       refine zO 11 (some 14) HT_ (fun K hK => ?_)
       refine goes_ Tryd.func45 (by kernel_rfl) rfl #[.int .i64 a0_2] (by rfl) rfl rfl zO0_0 ?_
       with_reducible refine (spec_l1Num.calls k a0_2 t192 _ A7.out).mono ?_
       rintro e w16 ⟨rfl, hb⟩
       refine ⟨_, rfl, ?_⟩
       replace BK189 := zb BK189 hb; replace HB := zh HB hb
       (try clear hb)
       (try clear hb2)
       (try clear hk)
       (try clear hi)
       refine hK.out _ _ ⟨(blk_cell BK189.out 0).trans rfl, (blk_cell BK189.out 1).trans rfl, (blk_cell BK189.out 2).trans rfl, (blk_cell BK189.out 3).trans rfl⟩ (fun hHeld => ?_)
       clear hK K
       refine zN 14 ?_
       refine zA 12 15 HT_ ?_
       refine zA 13 16 HT_ ?_
       refine zO 16 (some 19) HT_ (fun K hK => ?_)
       refine goes_ Tryd.func45 (by kernel_rfl) rfl #[.int .i64 a0_3] (by rfl) rfl rfl zO0_0 ?_
       with_reducible refine (spec_l1Num.calls k a0_3 t193 _ A10.out).mono ?_
       rintro e w17 ⟨rfl, hb⟩
       refine ⟨_, rfl, ?_⟩
       replace BK189 := zb BK189 hb; replace HB := zh HB hb
       (try clear hb)
       (try clear hb2)
       (try clear hk)
       (try clear hi)
       refine hK.out _ _ ⟨(blk_cell BK189.out 0).trans rfl, (blk_cell BK189.out 1).trans rfl, (blk_cell BK189.out 2).trans rfl, (blk_cell BK189.out 3).trans rfl⟩ (fun hHeld => ?_)
       clear hK K
       refine zN 19 ?_
       refine zA 17 20 HT_ ?_
       refine zA 18 2 HT_ ?_
       refine done_ (done_of HT_.out (by kernel_rfl)) ?_
       try go_wp2
       go_ret
       exact ⟨zt, zy HB⟩
      ·rw [if_neg c11] at H
       exact absurd H zO0_6
     ·rw [if_neg c9] at H
      exact absurd H zO0_6
    ·rw [if_neg c8] at H
     exact absurd H zO0_6
   ·rw [if_neg c6] at H
    exact absurd H zO0_6
  ·rw [if_neg c5] at H
   exact absurd H zO0_6
 ·rw [if_neg c3] at H
  exact absurd H zO0_6


/-! ### spec_IslandText: function 11 -/
def spec_IslandText.f (k : Nat) (a0_0 : Int) (a0_1 : Int) (a0_2 : Int) (a0_3 : Int) : Option (ByteArray × Bool) := (spec_htGood.f k a0_0 a0_1 a0_2 a0_3).bind fun t195 => (if t195 = true then ((spec_htText.f k a0_0 a0_1 a0_2 a0_3).bind fun t196 => (some (t196, true))) else (some ((⟨#[]⟩ : ByteArray), false)))
set_option maxHeartbeats 8000000 in
set_option maxRecDepth 100000 in
theorem spec_IslandText.calls (k : Nat) (a0_0 : Int) (a0_1 : Int) (a0_2 : Int) (a0_3 : Int) (r1 : ByteArray) (r2 : Bool) (w : World) (h : spec_IslandText.f k a0_0 a0_1 a0_2 a0_3 = some (r1, r2)) :
  Calls Tryd.prog 11 #[.agg #[.int .i64 a0_0, .int .i64 a0_1, .int .i64 a0_2, .int .i64 a0_3]] w fun e w' => e = .returned (.tuple #[.string r1, .bool r2]) ∧ Below w.heap.size w w' := by
 have hu23 := Tryd.underlying23
 have HB := Aside0.mk (Below.refl w.heap.size w)
 have H : ((spec_htGood.f k a0_0 a0_1 a0_2 a0_3).bind fun t195 => (if t195 = true then ((spec_htText.f k a0_0 a0_1 a0_2 a0_3).bind fun t196 => (some (t196, true))) else (some ((⟨#[]⟩ : ByteArray), false)))) = some (r1, r2) := h
 clear h; replace H := Option.bind_eq_some_iff.mp H; obtain ⟨t195, A20, H⟩ := H
 replace H : (if t195 = true then ((spec_htText.f k a0_0 a0_1 a0_2 a0_3).bind fun t196 => (some (t196, true))) else (some ((⟨#[]⟩ : ByteArray), false))) = some (r1, r2) := H
 have A2 := Aside0.mk A20; clear A20
 by_cases c3 : t195 = true
 ·subst c3
  rw [if_pos rfl] at H; replace H := Option.bind_eq_some_iff.mp H; obtain ⟨t196, A40, H⟩ := H
  replace H : (some (t196, true)) = some (r1, r2) := H
  have A4 := Aside0.mk A40; clear A40; simp only [Option.some.injEq, Prod.mk.injEq] at H; obtain ⟨rfl, rfl⟩ := H
  go_enter Tryd.func11, Tryd.ntmps11
  go_wp2_with (first | ((with_reducible refine gate_dst (N := 1) rfl ?_); refine zE 1 #[.int .i64 a0_0, .int .i64 a0_1, .int .i64 a0_2, .int .i64 a0_3] 23 ?_; intro gb194 hg w5 hbox hb; have BK194 := Aside0.mk (hbox); have GW194 := zg HB hg; have GE194 := GW194; replace HB := zh HB hb; clear hb hbox hg; obtain ⟨_, _, _, _, _, _, _, _⟩ := zc4 BK194) | ((with_reducible refine gate_callee (f := 28) rfl ?_); refine zG (some 5) Tryd.func28 #[.agg #[.int .i64 a0_0, .int .i64 a0_1, .int .i64 a0_2, .int .i64 a0_3]] ?_; (with_reducible refine (spec_htGood.calls k a0_0 a0_1 a0_2 a0_3 true _ A2.out).mono ?_); rintro e w7 ⟨rfl, hb⟩; refine ⟨_, rfl, ?_⟩; replace BK194 := zb BK194 hb; replace HB := zh HB hb; clear hb; obtain ⟨_, _, _, _, _, _, _, _⟩ := zc4 BK194) | ((with_reducible refine gate_callee (f := 33) rfl ?_); refine zG (some 8) Tryd.func33 #[.agg #[.int .i64 a0_0, .int .i64 a0_1, .int .i64 a0_2, .int .i64 a0_3]] ?_; (with_reducible refine (spec_htText.calls k a0_0 a0_1 a0_2 a0_3 t196 _ A4.out).mono ?_); rintro e w9 ⟨rfl, hb⟩; refine ⟨_, rfl, ?_⟩; replace BK194 := zb BK194 hb; replace HB := zh HB hb; clear hb))
  go_ret2
  exact ⟨zt, zy HB⟩
 ·replace c3 := Bool.eq_false_iff.mpr c3
  subst c3; rw [if_neg (show ¬ (false = true) by decide)] at H; simp only [Option.some.injEq, Prod.mk.injEq] at H; obtain ⟨rfl, rfl⟩ := H
  go_enter Tryd.func11, Tryd.ntmps11
  go_wp2_with (first | ((with_reducible refine gate_dst (N := 1) rfl ?_); refine zE 1 #[.int .i64 a0_0, .int .i64 a0_1, .int .i64 a0_2, .int .i64 a0_3] 23 ?_; intro gb194 hg w10 hbox hb; have BK194 := Aside0.mk (hbox); have GW194 := zg HB hg; have GE194 := GW194; replace HB := zh HB hb; clear hb hbox hg; obtain ⟨_, _, _, _, _, _, _, _⟩ := zc4 BK194) | ((with_reducible refine gate_callee (f := 28) rfl ?_); refine zG (some 5) Tryd.func28 #[.agg #[.int .i64 a0_0, .int .i64 a0_1, .int .i64 a0_2, .int .i64 a0_3]] ?_; (with_reducible refine (spec_htGood.calls k a0_0 a0_1 a0_2 a0_3 false _ A2.out).mono ?_); rintro e w12 ⟨rfl, hb⟩; refine ⟨_, rfl, ?_⟩; replace BK194 := zb BK194 hb; replace HB := zh HB hb; clear hb))
  go_ret2
  exact ⟨zt, zy HB⟩


/-! ### spec_IsIsland: function 13 -/
def spec_IsIsland.f (k : Nat) (a0_0 : Int) (a0_1 : Int) (a0_2 : Int) (a0_3 : Int) : Option (Bool) := (spec_htGood.f k a0_0 a0_1 a0_2 a0_3).bind fun t198 => (some t198)
set_option maxHeartbeats 8000000 in
set_option maxRecDepth 100000 in
theorem spec_IsIsland.calls (k : Nat) (a0_0 : Int) (a0_1 : Int) (a0_2 : Int) (a0_3 : Int) (r : Bool) (w : World) (h : spec_IsIsland.f k a0_0 a0_1 a0_2 a0_3 = some r) :
  Calls Tryd.prog 13 #[.agg #[.int .i64 a0_0, .int .i64 a0_1, .int .i64 a0_2, .int .i64 a0_3]] w fun e w' => e = .returned (.bool r) ∧ Below w.heap.size w w' := by
 have hu23 := Tryd.underlying23
 have HB := Aside0.mk (Below.refl w.heap.size w)
 have H : ((spec_htGood.f k a0_0 a0_1 a0_2 a0_3).bind fun t198 => (some t198)) = some r := h
 clear h; replace H := Option.bind_eq_some_iff.mp H; obtain ⟨t198, A20, H⟩ := H
 replace H : (some t198) = some r := H
 have A2 := Aside0.mk A20; clear A20
 obtain rfl := Option.some.inj H
 go_enter Tryd.func13, Tryd.ntmps13
 go_wp2_with (first | ((with_reducible refine gate_dst (N := 1) rfl ?_); refine zE 1 #[.int .i64 a0_0, .int .i64 a0_1, .int .i64 a0_2, .int .i64 a0_3] 23 ?_; intro gb197 hg w3 hbox hb; have BK197 := Aside0.mk (hbox); have GW197 := zg HB hg; have GE197 := GW197; replace HB := zh HB hb; clear hb hbox hg; obtain ⟨_, _, _, _, _, _, _, _⟩ := zc4 BK197) | ((with_reducible refine gate_callee (f := 28) rfl ?_); refine zG (some 4) Tryd.func28 #[.agg #[.int .i64 a0_0, .int .i64 a0_1, .int .i64 a0_2, .int .i64 a0_3]] ?_; (with_reducible refine (spec_htGood.calls k a0_0 a0_1 a0_2 a0_3 t198 _ A2.out).mono ?_); rintro e w5 ⟨rfl, hb⟩; refine ⟨_, rfl, ?_⟩; replace BK197 := zb BK197 hb; replace HB := zh HB hb; clear hb))
 go_ret
 exact ⟨zt, zy HB⟩


/-! ### laws_yLow: function 14 -/
mutual
def laws_yLow.j0 : Nat → Int → Int → Option (Bool)
 | 0, _, _ => none
 | k + 1, x5, x6 => laws_yLow.l0 k x5 x6
def laws_yLow.l0 : Nat → Int → Int → Option (Bool)
 | 0, _, _ => none
 | k + 1, x5, x6 => if x6 > 0 then (if x6 = 0 then (none) else (laws_yLow.l0 k x6 (Int.tmod x5 x6))) else (some (x5 == 1))
end
def laws_yLow.f (k : Nat) (a0 : Int) (a1 : Int) : Option (Bool) := if a1 < 1 then (some false) else (if a0 < 0 then (laws_yLow.j0 k (wrap64 (-a0)) a1) else (laws_yLow.j0 k a0 a1))
set_option maxHeartbeats 8000000 in
set_option maxRecDepth 100000 in
theorem laws_yLow.calls (k : Nat) (a0 : Int) (a1 : Int) (r : Bool) (w : World) (h : laws_yLow.f k a0 a1 = some r) :
  Calls Tryd.prog 14 #[.int .i64 a0, .int .i64 a1] w fun e w' => e = .returned (.bool r) ∧ Drawn0 w w' := by
 have H : (if a1 < 1 then (some false) else (if a0 < 0 then (laws_yLow.j0 k (wrap64 (-a0)) a1) else (laws_yLow.j0 k a0 a1))) = some r := h
 clear h
 by_cases c3 : a1 < 1
 ·rw [if_pos c3] at H
  have c3b0 : decide (a1 < 1) = true := decide_eq_true c3; clear c3
  obtain rfl := Option.some.inj H
  go_enter Tryd.func14, Tryd.ntmps14
  go_wp2
  repeat (go_quiet (fail); try go_wp2)
  go_ret
  exact ⟨by first | rfl | (simp; done) | (simp [*]; done), by repeat (first | exact Drawn0.refl _ | apply Drawn0.step)⟩
 ·rw [if_neg c3] at H
  have c3b0 : decide (a1 < 1) = false := decide_eq_false c3; clear c3; have HC4 := Aside0.mk H; clear H
  go_enter Tryd.func14, Tryd.ntmps14
  go_upto_if 12 with (fail)
  repeat (go_quiet (fail); go_upto_if 12 with (fail))
  go_cut [5] (fun v5 wc => ∃ (kq : Nat) (x5_3 : Int), v5 = .int .i64 x5_3 ∧ Aside0 (laws_yLow.j0 kq x5_3 a1 = some r) ∧ Aside0 (kq ≤ k) ∧ Drawn0 w wc)
  case first =>
   have H := HC4.out; clear HC4
   by_cases c5 : a0 < 0
   ·rw [if_pos c5] at H
    have c5b0 : decide (a0 < 0) = true := decide_eq_true c5; clear c5
    (first | rw [c5b0] | (simp only [i64_w, i32_w]; rw [c5b0]) | skip)
    have H' := Aside0.mk H; clear H
    go_wp2
    repeat (go_quiet (fail); try go_wp2)
    go_meet
    case rel => exact ⟨_, (wrap64 (-a0)), zu, H', ⟨by first | omega | exact Nat.le_refl _⟩, by repeat (first | exact Drawn0.refl _ | apply Drawn0.step)⟩
   ·rw [if_neg c5] at H
    have c5b0 : decide (a0 < 0) = false := decide_eq_false c5; clear c5
    (first | rw [c5b0] | (simp only [i64_w, i32_w]; rw [c5b0]) | skip)
    have H' := Aside0.mk H; clear H
    go_wp2
    repeat (go_quiet (fail); try go_wp2)
    go_meet
    case rel => exact ⟨_, (a0), zu, H', ⟨by first | omega | exact Nat.le_refl _⟩, by repeat (first | exact Drawn0.refl _ | apply Drawn0.step)⟩
  case rest =>
   clear HC4
   obtain ⟨kq, x5_3, rfl, HA, HJ3, ⟨mc3, rfl⟩⟩ := hcut
   cases kq with
   | zero => exact absurd HA.out (by simp [laws_yLow.j0])
   | succ kj3 =>
    have H := HA.out; clear HA; simp only [laws_yLow.j0] at H; have H' := Aside0.mk H; clear H
    go_wp2
    repeat (go_quiet (fail); try go_wp2)
    go_loopg [5, 6] kj3 (fun kq v5 v6 w' => ∃ (x5_2 : Int) (x6_2 : Int), v5 = .int .i64 x5_2 ∧ v6 = .int .i64 x6_2 ∧ Aside0 (laws_yLow.l0 kq x5_2 x6_2 = some r) ∧ Aside0 (kq ≤ kj3) ∧ Drawn0 w w')
    case atStart => exact ⟨(x5_3), (a1), zu, zu, H', ⟨Nat.le_refl _⟩, by repeat (first | exact Drawn0.refl _ | apply Drawn0.step)⟩
    case round =>
     clear H'
     obtain ⟨x5_2, x6_2, rfl, rfl, HA, HK2, ⟨m2, rfl⟩⟩ := hrel
     cases gk with
     | zero => exact absurd HA.out (by simp [laws_yLow.l0])
     | succ k2 =>
      have H := HA.out; clear HA; simp only [laws_yLow.l0] at H
      by_cases c6 : x6_2 > 0
      ·rw [if_pos c6] at H
       have c6b0 : decide (0 < x6_2) = true := decide_eq_true c6; clear c6
       by_cases c7 : x6_2 = 0
       ·rw [if_pos c7] at H
        exact absurd H zO0_6
       ·rw [if_neg c7] at H
        have c7b0 : (x6_2 == 0) = false := beq_eq_false_iff_ne.mpr c7
        have c7b1 : (x6_2 != 0) = true := bne_iff_ne.mpr c7
        have H' := Aside0.mk H; clear H
        go_wp2
        repeat (go_quiet (fail); try go_wp2)
        go_roundg k2
        case measure => have := HJ3.out; have := HK2.out; omega
        case rel => exact ⟨(x6_2), (Int.tmod x5_2 x6_2), zu, zu, H', ⟨by have := HJ3.out; have := HK2.out; omega⟩, by repeat (first | exact Drawn0.refl _ | apply Drawn0.step)⟩
      ·rw [if_neg c6] at H
       have c6b0 : decide (0 < x6_2) = false := decide_eq_false c6; clear c6
       obtain rfl := Option.some.inj H
       go_wp2
       repeat (go_quiet (fail); try go_wp2)
       go_ret
       exact ⟨by first | rfl | (simp; done) | (simp [*]; done), by repeat (first | exact Drawn0.refl _ | apply Drawn0.step)⟩


/-! ### impl_SecondStep: function 15 -/
def impl_SecondStep.f (k : Nat) (a0 : Int) (a1 : Int) (a2 : Int) (a3 : Int) : Option (Int × Int × Bool) := (impl_areStaffs.f (([a0] : List Int))).bind fun t202 => (if t202 = true then ((impl_areSteps.f (([a1, a2, a3] : List Int))).bind fun t206 => (if t206 = true then (if a3 ≤ a0 then (some (0, 0, false)) else ((impl_fraction.f k (wrap64 ((wrap64 (a2 * (wrap64 (a3 - a0)))) + (wrap64 (a0 * a1)))) (wrap64 (a3 - a0))).bind fun bt207 => (some (bt207.1, bt207.2.1, bt207.2.2)))) else (some (0, 0, false)))) else (some (0, 0, false)))
set_option maxHeartbeats 8000000 in
set_option maxRecDepth 100000 in
theorem impl_SecondStep.calls (k : Nat) (a0 : Int) (a1 : Int) (a2 : Int) (a3 : Int) (r1 : Int) (r2 : Int) (r3 : Bool) (w : World) (h : impl_SecondStep.f k a0 a1 a2 a3 = some (r1, r2, r3)) :
  Calls Tryd.prog 15 #[.int .i64 a0, .int .i64 a1, .int .i64 a2, .int .i64 a3] w fun e w' => e = .returned (.tuple #[.int .i64 r1, .int .i64 r2, .bool r3]) ∧ Below w.heap.size w w' := by
 have HB := Aside0.mk (Below.refl w.heap.size w)
 have H : ((impl_areStaffs.f (([a0] : List Int))).bind fun t202 => (if t202 = true then ((impl_areSteps.f (([a1, a2, a3] : List Int))).bind fun t206 => (if t206 = true then (if a3 ≤ a0 then (some (0, 0, false)) else ((impl_fraction.f k (wrap64 ((wrap64 (a2 * (wrap64 (a3 - a0)))) + (wrap64 (a0 * a1)))) (wrap64 (a3 - a0))).bind fun bt207 => (some (bt207.1, bt207.2.1, bt207.2.2)))) else (some (0, 0, false)))) else (some (0, 0, false)))) = some (r1, r2, r3) := h
 clear h
 obtain ⟨y199, hy199⟩ : ∃ y_ : List Int, y_ = (([a0] : List Int)) := ⟨_, rfl⟩
 replace H : ((impl_areStaffs.f y199).bind fun t202 => (if t202 = true then ((impl_areSteps.f (([a1, a2, a3] : List Int))).bind fun t206 => (if t206 = true then (if a3 ≤ a0 then (some (0, 0, false)) else ((impl_fraction.f k (wrap64 ((wrap64 (a2 * (wrap64 (a3 - a0)))) + (wrap64 (a0 * a1)))) (wrap64 (a3 - a0))).bind fun bt207 => (some (bt207.1, bt207.2.1, bt207.2.2)))) else (some (0, 0, false)))) else (some (0, 0, false)))) = some (r1, r2, r3) := by first | (rw [hy199]; with_reducible exact H) | (have H2_ := (Option.bind_some _ _).symm.trans H; rw [hy199]; with_reducible exact H2_) | (have H2_ := (Option.bind_some _ _).symm.trans H; with_reducible exact H2_) | with_reducible exact H | (rw [hy199]; exact H) | exact H
 have Ny199 := Aside0.mk hy199; clear hy199; replace H := Option.bind_eq_some_iff.mp H; obtain ⟨t202, A50, H⟩ := H; (try dsimp only at H); have A5 := Aside0.mk A50; clear A50
 by_cases c6 : t202 = true
 ·subst c6
  rw [if_pos rfl] at H
  obtain ⟨y203, hy203⟩ : ∃ y_ : List Int, y_ = (([a1, a2, a3] : List Int)) := ⟨_, rfl⟩
  replace H : ((impl_areSteps.f y203).bind fun t206 => (if t206 = true then (if a3 ≤ a0 then (some (0, 0, false)) else ((impl_fraction.f k (wrap64 ((wrap64 (a2 * (wrap64 (a3 - a0)))) + (wrap64 (a0 * a1)))) (wrap64 (a3 - a0))).bind fun bt207 => (some (bt207.1, bt207.2.1, bt207.2.2)))) else (some (0, 0, false)))) = some (r1, r2, r3) := by first | (rw [hy203]; with_reducible exact H) | (have H2_ := (Option.bind_some _ _).symm.trans H; rw [hy203]; with_reducible exact H2_) | (have H2_ := (Option.bind_some _ _).symm.trans H; with_reducible exact H2_) | with_reducible exact H | (rw [hy203]; exact H) | exact H
  have Ny203 := Aside0.mk hy203; clear hy203; replace H := Option.bind_eq_some_iff.mp H; obtain ⟨t206, A70, H⟩ := H; (try dsimp only at H); have A7 := Aside0.mk A70; clear A70
  by_cases c8 : t206 = true
  ·subst c8
   rw [if_pos rfl] at H
   by_cases c9 : a3 ≤ a0
   ·rw [if_pos c9] at H
    have c9b0 : decide (a3 ≤ a0) = true := decide_eq_true c9; clear c9; simp only [Option.some.injEq, Prod.mk.injEq] at H; obtain ⟨rfl, rfl, rfl⟩ := H
    go_enter Tryd.func15, Tryd.ntmps15
    go_wp2_with (first | ((with_reducible refine gate_dst (N := 12) rfl ?_); (try (refine gate_guard (by rfl) ?_; dsimp only)); refine Kd.R_lit (Kd.int .i64) _ 3 ?hg (N := 12) ?hd (xs := ([a0] : List Int)) (inner := [.int .i64 a0]) (ok := fun _ => True) (okp := fun _ => True) ?hr ?hp (fun _ hk => hk) trivial (Below.refl _ _) (Nat.le_refl _) zO0_6 ?_; (case hd => rfl); (case hg => rfl); (case hr => first | (go_simp; done) | (go_simp; rfl)); (case hp => exact (Reps.one (show Kd.M (Kd.int .i64) _ _ _ a0 [.int .i64 a0] from rfl) (Reps.none _ _))); intro v200 w10 ho11 hb hg_ hnew_; clear hg_ hnew_; (first | rw [← Ny199.out] at ho11 | (simp only [Int.reduceToNat] at ho11; rw [← Ny199.out] at ho11)); have HO201 := Aside0.mk (Kd.R_lower ho11 (below_size (zy HB))); replace HB := zh HB hb; clear hb ho11; obtain ⟨Ao12, co12, eo12⟩ := Kd.R_slice HO201.out; subst eo12) | ((with_reducible refine gate_callee (f := 34) rfl ?_); refine zG (some 13) Tryd.func34 #[.slice Ao12 y199.length co12] ?_; (with_reducible refine (impl_areStaffs.calls _ _ y199 true _ ?side1 ?side2 A5.out).mono ?_); (case side1 => repeat (first | exact (Kd.R_reads' HO201.out).2.2 | (with_reducible refine Kd.C_alloc ?_ _) | (with_reducible refine Kd.C_drewN ?_ _) | (with_reducible refine Kd.C_drew ?_))); (case side2 => exact (Kd.R_reads' HO201.out).2.1); rintro e w' ⟨rfl, ⟨nd, rfl⟩⟩; refine ⟨_, rfl, ?_⟩) | ((with_reducible refine gate_dst (N := 19) rfl ?_); (try (refine gate_guard (by rfl) ?_; dsimp only)); refine Kd.R_lit (Kd.int .i64) _ 3 ?hg (N := 19) ?hd (xs := ([a1, a2, a3] : List Int)) (inner := [.int .i64 a1, .int .i64 a2, .int .i64 a3]) (ok := fun _ => True) (okp := fun _ => True) ?hr ?hp (fun _ hk => hk) trivial (Below.refl _ _) (Nat.le_refl _) zO0_6 ?_; (case hd => rfl); (case hg => rfl); (case hr => first | (go_simp; done) | (go_simp; rfl)); (case hp => exact (Reps.one (show Kd.M (Kd.int .i64) _ _ _ a1 [.int .i64 a1] from rfl) (Reps.one (show Kd.M (Kd.int .i64) _ _ _ a2 [.int .i64 a2] from rfl) (Reps.one (show Kd.M (Kd.int .i64) _ _ _ a3 [.int .i64 a3] from rfl) (Reps.none _ _))))); intro v204 w13 ho14 hb hg_ hnew_; clear hg_ hnew_; (first | rw [← Ny203.out] at ho14 | (simp only [Int.reduceToNat] at ho14; rw [← Ny203.out] at ho14)); have n0_ := Aside0.mk (Kd.R_elder' (zs HO201) (Kd.R_base ho14) hb); have HO205 := Aside0.mk (Kd.R_lower (Kd.R_new' ho14 (Kd.R_lt (zs HO201))) (below_size (zy HB))); replace HB := zh HB hb; clear HO201; have HO201 := n0_; clear n0_; clear hb ho14; obtain ⟨Ao15, co15, eo15⟩ := Kd.R_slice HO205.out; subst eo15) | (go_at_call 35; (with_reducible refine (impl_areSteps.calls _ _ y203 true _ ?side1 ?side2 A7.out).mono ?_); (case side1 => repeat (first | exact (Kd.R_reads' HO205.out).2.2 | (with_reducible refine Kd.C_alloc ?_ _) | (with_reducible refine Kd.C_drewN ?_ _) | (with_reducible refine Kd.C_drew ?_))); (case side2 => exact (Kd.R_reads' HO205.out).2.1); rintro e w' ⟨rfl, ⟨nd, rfl⟩⟩))
    go_ret3
    exact ⟨zt, zy HB⟩
   ·rw [if_neg c9] at H
    have c9b0 : decide (a3 ≤ a0) = false := decide_eq_false c9; clear c9; replace H := Option.bind_eq_some_iff.mp H; obtain ⟨⟨t207, t208, t209⟩, A160, H⟩ := H
    replace H : (some (t207, t208, t209)) = some (r1, r2, r3) := H
    have A16 := Aside0.mk A160; clear A160; simp only [Option.some.injEq, Prod.mk.injEq] at H; obtain ⟨rfl, rfl, rfl⟩ := H
    go_enter Tryd.func15, Tryd.ntmps15
    go_wp2_with (first | ((with_reducible refine gate_dst (N := 12) rfl ?_); (try (refine gate_guard (by rfl) ?_; dsimp only)); refine Kd.R_lit (Kd.int .i64) _ 3 ?hg (N := 12) ?hd (xs := ([a0] : List Int)) (inner := [.int .i64 a0]) (ok := fun _ => True) (okp := fun _ => True) ?hr ?hp (fun _ hk => hk) trivial (Below.refl _ _) (Nat.le_refl _) zO0_6 ?_; (case hd => rfl); (case hg => rfl); (case hr => first | (go_simp; done) | (go_simp; rfl)); (case hp => exact (Reps.one (show Kd.M (Kd.int .i64) _ _ _ a0 [.int .i64 a0] from rfl) (Reps.none _ _))); intro v200 w17 ho18 hb hg_ hnew_; clear hg_ hnew_; (first | rw [← Ny199.out] at ho18 | (simp only [Int.reduceToNat] at ho18; rw [← Ny199.out] at ho18)); have HO201 := Aside0.mk (Kd.R_lower ho18 (below_size (zy HB))); replace HB := zh HB hb; clear hb ho18; obtain ⟨Ao19, co19, eo19⟩ := Kd.R_slice HO201.out; subst eo19) | ((with_reducible refine gate_callee (f := 34) rfl ?_); refine zG (some 13) Tryd.func34 #[.slice Ao19 y199.length co19] ?_; (with_reducible refine (impl_areStaffs.calls _ _ y199 true _ ?side1 ?side2 A5.out).mono ?_); (case side1 => repeat (first | exact (Kd.R_reads' HO201.out).2.2 | (with_reducible refine Kd.C_alloc ?_ _) | (with_reducible refine Kd.C_drewN ?_ _) | (with_reducible refine Kd.C_drew ?_))); (case side2 => exact (Kd.R_reads' HO201.out).2.1); rintro e w' ⟨rfl, ⟨nd, rfl⟩⟩; refine ⟨_, rfl, ?_⟩) | ((with_reducible refine gate_dst (N := 19) rfl ?_); (try (refine gate_guard (by rfl) ?_; dsimp only)); refine Kd.R_lit (Kd.int .i64) _ 3 ?hg (N := 19) ?hd (xs := ([a1, a2, a3] : List Int)) (inner := [.int .i64 a1, .int .i64 a2, .int .i64 a3]) (ok := fun _ => True) (okp := fun _ => True) ?hr ?hp (fun _ hk => hk) trivial (Below.refl _ _) (Nat.le_refl _) zO0_6 ?_; (case hd => rfl); (case hg => rfl); (case hr => first | (go_simp; done) | (go_simp; rfl)); (case hp => exact (Reps.one (show Kd.M (Kd.int .i64) _ _ _ a1 [.int .i64 a1] from rfl) (Reps.one (show Kd.M (Kd.int .i64) _ _ _ a2 [.int .i64 a2] from rfl) (Reps.one (show Kd.M (Kd.int .i64) _ _ _ a3 [.int .i64 a3] from rfl) (Reps.none _ _))))); intro v204 w20 ho21 hb hg_ hnew_; clear hg_ hnew_; (first | rw [← Ny203.out] at ho21 | (simp only [Int.reduceToNat] at ho21; rw [← Ny203.out] at ho21)); have n0_ := Aside0.mk (Kd.R_elder' (zs HO201) (Kd.R_base ho21) hb); have HO205 := Aside0.mk (Kd.R_lower (Kd.R_new' ho21 (Kd.R_lt (zs HO201))) (below_size (zy HB))); replace HB := zh HB hb; clear HO201; have HO201 := n0_; clear n0_; clear hb ho21; obtain ⟨Ao22, co22, eo22⟩ := Kd.R_slice HO205.out; subst eo22) | (go_at_call 35; (with_reducible refine (impl_areSteps.calls _ _ y203 true _ ?side1 ?side2 A7.out).mono ?_); (case side1 => repeat (first | exact (Kd.R_reads' HO205.out).2.2 | (with_reducible refine Kd.C_alloc ?_ _) | (with_reducible refine Kd.C_drewN ?_ _) | (with_reducible refine Kd.C_drew ?_))); (case side2 => exact (Kd.R_reads' HO205.out).2.1); rintro e w' ⟨rfl, ⟨nd, rfl⟩⟩) | ((with_reducible refine gate_callee (f := 27) rfl ?_); refine zG (some 40) Tryd.func27 #[.int .i64 (wrap64 ((wrap64 (a2 * (wrap64 (a3 - a0)))) + (wrap64 (a0 * a1)))), .int .i64 (wrap64 (a3 - a0))] ?_; (with_reducible refine (impl_fraction.calls k (wrap64 ((wrap64 (a2 * (wrap64 (a3 - a0)))) + (wrap64 (a0 * a1)))) (wrap64 (a3 - a0)) t207 t208 t209 _ A16.out).mono ?_); rintro e w23 ⟨rfl, hb⟩; refine ⟨_, rfl, ?_⟩; replace HO201 := zo HO201 hb; replace HO205 := zo HO205 hb; replace HB := zh HB hb; clear hb))
    go_ret3
    exact ⟨zt, zy HB⟩
  ·replace c8 := Bool.eq_false_iff.mpr c8
   subst c8; rw [if_neg (show ¬ (false = true) by decide)] at H; simp only [Option.some.injEq, Prod.mk.injEq] at H; obtain ⟨rfl, rfl, rfl⟩ := H
   go_enter Tryd.func15, Tryd.ntmps15
   go_wp2_with (first | ((with_reducible refine gate_dst (N := 12) rfl ?_); (try (refine gate_guard (by rfl) ?_; dsimp only)); refine Kd.R_lit (Kd.int .i64) _ 3 ?hg (N := 12) ?hd (xs := ([a0] : List Int)) (inner := [.int .i64 a0]) (ok := fun _ => True) (okp := fun _ => True) ?hr ?hp (fun _ hk => hk) trivial (Below.refl _ _) (Nat.le_refl _) zO0_6 ?_; (case hd => rfl); (case hg => rfl); (case hr => first | (go_simp; done) | (go_simp; rfl)); (case hp => exact (Reps.one (show Kd.M (Kd.int .i64) _ _ _ a0 [.int .i64 a0] from rfl) (Reps.none _ _))); intro v200 w24 ho25 hb hg_ hnew_; clear hg_ hnew_; (first | rw [← Ny199.out] at ho25 | (simp only [Int.reduceToNat] at ho25; rw [← Ny199.out] at ho25)); have HO201 := Aside0.mk (Kd.R_lower ho25 (below_size (zy HB))); replace HB := zh HB hb; clear hb ho25; obtain ⟨Ao26, co26, eo26⟩ := Kd.R_slice HO201.out; subst eo26) | ((with_reducible refine gate_callee (f := 34) rfl ?_); refine zG (some 13) Tryd.func34 #[.slice Ao26 y199.length co26] ?_; (with_reducible refine (impl_areStaffs.calls _ _ y199 true _ ?side1 ?side2 A5.out).mono ?_); (case side1 => repeat (first | exact (Kd.R_reads' HO201.out).2.2 | (with_reducible refine Kd.C_alloc ?_ _) | (with_reducible refine Kd.C_drewN ?_ _) | (with_reducible refine Kd.C_drew ?_))); (case side2 => exact (Kd.R_reads' HO201.out).2.1); rintro e w' ⟨rfl, ⟨nd, rfl⟩⟩; refine ⟨_, rfl, ?_⟩) | ((with_reducible refine gate_dst (N := 19) rfl ?_); (try (refine gate_guard (by rfl) ?_; dsimp only)); refine Kd.R_lit (Kd.int .i64) _ 3 ?hg (N := 19) ?hd (xs := ([a1, a2, a3] : List Int)) (inner := [.int .i64 a1, .int .i64 a2, .int .i64 a3]) (ok := fun _ => True) (okp := fun _ => True) ?hr ?hp (fun _ hk => hk) trivial (Below.refl _ _) (Nat.le_refl _) zO0_6 ?_; (case hd => rfl); (case hg => rfl); (case hr => first | (go_simp; done) | (go_simp; rfl)); (case hp => exact (Reps.one (show Kd.M (Kd.int .i64) _ _ _ a1 [.int .i64 a1] from rfl) (Reps.one (show Kd.M (Kd.int .i64) _ _ _ a2 [.int .i64 a2] from rfl) (Reps.one (show Kd.M (Kd.int .i64) _ _ _ a3 [.int .i64 a3] from rfl) (Reps.none _ _))))); intro v204 w27 ho28 hb hg_ hnew_; clear hg_ hnew_; (first | rw [← Ny203.out] at ho28 | (simp only [Int.reduceToNat] at ho28; rw [← Ny203.out] at ho28)); have n0_ := Aside0.mk (Kd.R_elder' (zs HO201) (Kd.R_base ho28) hb); have HO205 := Aside0.mk (Kd.R_lower (Kd.R_new' ho28 (Kd.R_lt (zs HO201))) (below_size (zy HB))); replace HB := zh HB hb; clear HO201; have HO201 := n0_; clear n0_; clear hb ho28; obtain ⟨Ao29, co29, eo29⟩ := Kd.R_slice HO205.out; subst eo29) | (go_at_call 35; (with_reducible refine (impl_areSteps.calls _ _ y203 false _ ?side1 ?side2 A7.out).mono ?_); (case side1 => repeat (first | exact (Kd.R_reads' HO205.out).2.2 | (with_reducible refine Kd.C_alloc ?_ _) | (with_reducible refine Kd.C_drewN ?_ _) | (with_reducible refine Kd.C_drew ?_))); (case side2 => exact (Kd.R_reads' HO205.out).2.1); rintro e w' ⟨rfl, ⟨nd, rfl⟩⟩))
   go_ret3
   exact ⟨zt, zy HB⟩
 ·replace c6 := Bool.eq_false_iff.mpr c6
  subst c6; rw [if_neg (show ¬ (false = true) by decide)] at H; simp only [Option.some.injEq, Prod.mk.injEq] at H; obtain ⟨rfl, rfl, rfl⟩ := H
  go_enter Tryd.func15, Tryd.ntmps15
  go_wp2_with (first | ((with_reducible refine gate_dst (N := 12) rfl ?_); (try (refine gate_guard (by rfl) ?_; dsimp only)); refine Kd.R_lit (Kd.int .i64) _ 3 ?hg (N := 12) ?hd (xs := ([a0] : List Int)) (inner := [.int .i64 a0]) (ok := fun _ => True) (okp := fun _ => True) ?hr ?hp (fun _ hk => hk) trivial (Below.refl _ _) (Nat.le_refl _) zO0_6 ?_; (case hd => rfl); (case hg => rfl); (case hr => first | (go_simp; done) | (go_simp; rfl)); (case hp => exact (Reps.one (show Kd.M (Kd.int .i64) _ _ _ a0 [.int .i64 a0] from rfl) (Reps.none _ _))); intro v200 w30 ho31 hb hg_ hnew_; clear hg_ hnew_; (first | rw [← Ny199.out] at ho31 | (simp only [Int.reduceToNat] at ho31; rw [← Ny199.out] at ho31)); have HO201 := Aside0.mk (Kd.R_lower ho31 (below_size (zy HB))); replace HB := zh HB hb; clear hb ho31; obtain ⟨Ao32, co32, eo32⟩ := Kd.R_slice HO201.out; subst eo32) | ((with_reducible refine gate_callee (f := 34) rfl ?_); refine zG (some 13) Tryd.func34 #[.slice Ao32 y199.length co32] ?_; (with_reducible refine (impl_areStaffs.calls _ _ y199 false _ ?side1 ?side2 A5.out).mono ?_); (case side1 => repeat (first | exact (Kd.R_reads' HO201.out).2.2 | (with_reducible refine Kd.C_alloc ?_ _) | (with_reducible refine Kd.C_drewN ?_ _) | (with_reducible refine Kd.C_drew ?_))); (case side2 => exact (Kd.R_reads' HO201.out).2.1); rintro e w' ⟨rfl, ⟨nd, rfl⟩⟩; refine ⟨_, rfl, ?_⟩))
  go_ret3
  exact ⟨zt, zy HB⟩


/-! ### laws_yIs: function 16 -/
def laws_yIs.f (k : Nat) (a0 : Int) (a1 : Int) (a2 : Int) (a3 : Int) : Option (Bool) := (laws_yLow.f k a0 a1).bind fun t210 => (if t210 = true then (some ((wrap64 (a0 * a3)) == (wrap64 (a2 * a1)))) else (some false))
set_option maxHeartbeats 8000000 in
set_option maxRecDepth 100000 in
theorem laws_yIs.calls (k : Nat) (a0 : Int) (a1 : Int) (a2 : Int) (a3 : Int) (r : Bool) (w : World) (h : laws_yIs.f k a0 a1 a2 a3 = some r) :
  Calls Tryd.prog 16 #[.int .i64 a0, .int .i64 a1, .int .i64 a2, .int .i64 a3] w fun e w' => e = .returned (.bool r) ∧ Drawn0 w w' := by
 have H : ((laws_yLow.f k a0 a1).bind fun t210 => (if t210 = true then (some ((wrap64 (a0 * a3)) == (wrap64 (a2 * a1)))) else (some false))) = some r := h
 clear h; replace H := Option.bind_eq_some_iff.mp H; obtain ⟨t210, A50, H⟩ := H
 replace H : (if t210 = true then (some ((wrap64 (a0 * a3)) == (wrap64 (a2 * a1)))) else (some false)) = some r := H
 have A5 := Aside0.mk A50; clear A50
 by_cases c6 : t210 = true
 ·subst c6
  rw [if_pos rfl] at H
  obtain rfl := Option.some.inj H
  go_enter Tryd.func16, Tryd.ntmps16
  go_wp2_with (first | ((with_reducible refine gate_callee (f := 14) rfl ?_); refine zG (some 11) Tryd.func14 #[.int .i64 a0, .int .i64 a1] ?_; (with_reducible refine (laws_yLow.calls k a0 a1 true _ A5.out).mono ?_); rintro e w' ⟨rfl, ⟨nd, rfl⟩⟩; refine ⟨_, rfl, ?_⟩))
  go_ret
  exact ⟨by first | rfl | (simp; done) | (simp [*]; done), by repeat (first | exact Drawn0.refl _ | apply Drawn0.step)⟩
 ·replace c6 := Bool.eq_false_iff.mpr c6
  subst c6; rw [if_neg (show ¬ (false = true) by decide)] at H
  obtain rfl := Option.some.inj H
  go_enter Tryd.func16, Tryd.ntmps16
  go_wp2_with (first | ((with_reducible refine gate_callee (f := 14) rfl ?_); refine zG (some 11) Tryd.func14 #[.int .i64 a0, .int .i64 a1] ?_; (with_reducible refine (laws_yLow.calls k a0 a1 false _ A5.out).mono ?_); rintro e w' ⟨rfl, ⟨nd, rfl⟩⟩; refine ⟨_, rfl, ?_⟩))
  go_ret
  exact ⟨by first | rfl | (simp; done) | (simp [*]; done), by repeat (first | exact Drawn0.refl _ | apply Drawn0.step)⟩


/-! ### impl_StepsForIsland: function 17 -/
def impl_StepsForIsland.j0 : Nat → Int → Int → Int → Int → Bool → Option (Int × Int × Int × Int × Bool)
 | 0, _, _, _, _, _ => none
 | k + 1, x0, x1, x2, x3, x35 => if x35 = true then (some (0, 0, 0, 0, false)) else ((impl_fraction.f k (wrap64 (x0 * x3)) (wrap64 (x2 - x0))).bind fun bt219 => ((impl_fraction.f k (wrap64 (x0 * (wrap64 (x3 + x1)))) (wrap64 (x2 - x0))).bind fun bt222 => (some (bt219.1, bt219.2.1, bt222.1, bt222.2.1, true))))
def impl_StepsForIsland.f (k : Nat) (a0 : Int) (a1 : Int) (a2 : Int) (a3 : Int) : Option (Int × Int × Int × Int × Bool) := (impl_areStaffs.f (([a0] : List Int))).bind fun t214 => (if t214 = true then ((impl_areSteps.f (([a1, a2, a3] : List Int))).bind fun t218 => (if t218 = true then (impl_StepsForIsland.j0 k a0 a1 a2 a3 (decide (a2 ≤ a0))) else (impl_StepsForIsland.j0 k a0 a1 a2 a3 true))) else (impl_StepsForIsland.j0 k a0 a1 a2 a3 true))
set_option maxHeartbeats 8000000 in
set_option maxRecDepth 100000 in
theorem impl_StepsForIsland.calls (k : Nat) (a0 : Int) (a1 : Int) (a2 : Int) (a3 : Int) (r1 : Int) (r2 : Int) (r3 : Int) (r4 : Int) (r5 : Bool) (w : World) (h : impl_StepsForIsland.f k a0 a1 a2 a3 = some (r1, r2, r3, r4, r5)) :
  Calls Tryd.prog 17 #[.int .i64 a0, .int .i64 a1, .int .i64 a2, .int .i64 a3] w fun e w' => e = .returned (.tuple #[.int .i64 r1, .int .i64 r2, .int .i64 r3, .int .i64 r4, .bool r5]) ∧ Below w.heap.size w w' := by
 have HB := Aside0.mk (Below.refl w.heap.size w)
 have H : ((impl_areStaffs.f (([a0] : List Int))).bind fun t214 => (if t214 = true then ((impl_areSteps.f (([a1, a2, a3] : List Int))).bind fun t218 => (if t218 = true then (impl_StepsForIsland.j0 k a0 a1 a2 a3 (decide (a2 ≤ a0))) else (impl_StepsForIsland.j0 k a0 a1 a2 a3 true))) else (impl_StepsForIsland.j0 k a0 a1 a2 a3 true))) = some (r1, r2, r3, r4, r5) := h
 clear h; have HC5 := Aside0.mk H; clear H
 go_enter Tryd.func17, Tryd.ntmps17
 go_upto_region 1 with (fail)
 go_cut [35] (fun v35 wc => ∃ (kq : Nat) (x35_4 : Bool), v35 = .bool x35_4 ∧ Aside0 (impl_StepsForIsland.j0 kq a0 a1 a2 a3 x35_4 = some (r1, r2, r3, r4, r5)) ∧ Aside0 (kq ≤ k) ∧ Aside0 (Below w.heap.size w wc))
 case first =>
  have H := HC5.out; clear HC5
  obtain ⟨y211, hy211⟩ : ∃ y_ : List Int, y_ = (([a0] : List Int)) := ⟨_, rfl⟩
  replace H : ((impl_areStaffs.f y211).bind fun t214 => (if t214 = true then ((impl_areSteps.f (([a1, a2, a3] : List Int))).bind fun t218 => (if t218 = true then (impl_StepsForIsland.j0 k a0 a1 a2 a3 (decide (a2 ≤ a0))) else (impl_StepsForIsland.j0 k a0 a1 a2 a3 true))) else (impl_StepsForIsland.j0 k a0 a1 a2 a3 true))) = some (r1, r2, r3, r4, r5) := by first | (rw [hy211]; with_reducible exact H) | (have H2_ := (Option.bind_some _ _).symm.trans H; rw [hy211]; with_reducible exact H2_) | (have H2_ := (Option.bind_some _ _).symm.trans H; with_reducible exact H2_) | with_reducible exact H | (rw [hy211]; exact H) | exact H
  have Ny211 := Aside0.mk hy211; clear hy211; replace H := Option.bind_eq_some_iff.mp H; obtain ⟨t214, A60, H⟩ := H; (try dsimp only at H); have A6 := Aside0.mk A60; clear A60
  by_cases c7 : t214 = true
  ·subst c7
   rw [if_pos rfl] at H
   obtain ⟨y215, hy215⟩ : ∃ y_ : List Int, y_ = (([a1, a2, a3] : List Int)) := ⟨_, rfl⟩
   replace H : ((impl_areSteps.f y215).bind fun t218 => (if t218 = true then (impl_StepsForIsland.j0 k a0 a1 a2 a3 (decide (a2 ≤ a0))) else (impl_StepsForIsland.j0 k a0 a1 a2 a3 true))) = some (r1, r2, r3, r4, r5) := by first | (rw [hy215]; with_reducible exact H) | (have H2_ := (Option.bind_some _ _).symm.trans H; rw [hy215]; with_reducible exact H2_) | (have H2_ := (Option.bind_some _ _).symm.trans H; with_reducible exact H2_) | with_reducible exact H | (rw [hy215]; exact H) | exact H
   have Ny215 := Aside0.mk hy215; clear hy215; replace H := Option.bind_eq_some_iff.mp H; obtain ⟨t218, A80, H⟩ := H
   replace H : (if t218 = true then (impl_StepsForIsland.j0 k a0 a1 a2 a3 (decide (a2 ≤ a0))) else (impl_StepsForIsland.j0 k a0 a1 a2 a3 true)) = some (r1, r2, r3, r4, r5) := H
   have A8 := Aside0.mk A80; clear A80
   by_cases c9 : t218 = true
   ·subst c9
    rw [if_pos rfl] at H; have H' := Aside0.mk H; clear H
    go_wp2_with (first | ((with_reducible refine gate_dst (N := 20) rfl ?_); (try (refine gate_guard (by rfl) ?_; dsimp only)); refine Kd.R_lit (Kd.int .i64) _ 3 ?hg (N := 20) ?hd (xs := ([a0] : List Int)) (inner := [.int .i64 a0]) (ok := fun _ => True) (okp := fun _ => True) ?hr ?hp (fun _ hk => hk) trivial (Below.refl _ _) (Nat.le_refl _) zO0_6 ?_; (case hd => rfl); (case hg => rfl); (case hr => first | (go_simp; done) | (go_simp; rfl)); (case hp => exact (Reps.one (show Kd.M (Kd.int .i64) _ _ _ a0 [.int .i64 a0] from rfl) (Reps.none _ _))); intro v212 w10 ho11 hb hg_ hnew_; clear hg_ hnew_; (first | rw [← Ny211.out] at ho11 | (simp only [Int.reduceToNat] at ho11; rw [← Ny211.out] at ho11)); have HO213 := Aside0.mk (Kd.R_lower ho11 (below_size (zy HB))); replace HB := zh HB hb; clear hb ho11; obtain ⟨Ao12, co12, eo12⟩ := Kd.R_slice HO213.out; subst eo12) | ((with_reducible refine gate_callee (f := 34) rfl ?_); refine zG (some 21) Tryd.func34 #[.slice Ao12 y211.length co12] ?_; (with_reducible refine (impl_areStaffs.calls _ _ y211 true _ ?side1 ?side2 A6.out).mono ?_); (case side1 => repeat (first | exact (Kd.R_reads' HO213.out).2.2 | (with_reducible refine Kd.C_alloc ?_ _) | (with_reducible refine Kd.C_drewN ?_ _) | (with_reducible refine Kd.C_drew ?_))); (case side2 => exact (Kd.R_reads' HO213.out).2.1); rintro e w' ⟨rfl, ⟨nd, rfl⟩⟩; refine ⟨_, rfl, ?_⟩) | ((with_reducible refine gate_dst (N := 27) rfl ?_); (try (refine gate_guard (by rfl) ?_; dsimp only)); refine Kd.R_lit (Kd.int .i64) _ 3 ?hg (N := 27) ?hd (xs := ([a1, a2, a3] : List Int)) (inner := [.int .i64 a1, .int .i64 a2, .int .i64 a3]) (ok := fun _ => True) (okp := fun _ => True) ?hr ?hp (fun _ hk => hk) trivial (Below.refl _ _) (Nat.le_refl _) zO0_6 ?_; (case hd => rfl); (case hg => rfl); (case hr => first | (go_simp; done) | (go_simp; rfl)); (case hp => exact (Reps.one (show Kd.M (Kd.int .i64) _ _ _ a1 [.int .i64 a1] from rfl) (Reps.one (show Kd.M (Kd.int .i64) _ _ _ a2 [.int .i64 a2] from rfl) (Reps.one (show Kd.M (Kd.int .i64) _ _ _ a3 [.int .i64 a3] from rfl) (Reps.none _ _))))); intro v216 w13 ho14 hb hg_ hnew_; clear hg_ hnew_; (first | rw [← Ny215.out] at ho14 | (simp only [Int.reduceToNat] at ho14; rw [← Ny215.out] at ho14)); have n0_ := Aside0.mk (Kd.R_elder' (zs HO213) (Kd.R_base ho14) hb); have HO217 := Aside0.mk (Kd.R_lower (Kd.R_new' ho14 (Kd.R_lt (zs HO213))) (below_size (zy HB))); replace HB := zh HB hb; clear HO213; have HO213 := n0_; clear n0_; clear hb ho14; obtain ⟨Ao15, co15, eo15⟩ := Kd.R_slice HO217.out; subst eo15) | (go_at_call 35; (with_reducible refine (impl_areSteps.calls _ _ y215 true _ ?side1 ?side2 A8.out).mono ?_); (case side1 => repeat (first | exact (Kd.R_reads' HO217.out).2.2 | (with_reducible refine Kd.C_alloc ?_ _) | (with_reducible refine Kd.C_drewN ?_ _) | (with_reducible refine Kd.C_drew ?_))); (case side2 => exact (Kd.R_reads' HO217.out).2.1); rintro e w' ⟨rfl, ⟨nd, rfl⟩⟩))
    go_meet
    case rel => exact ⟨_, (decide (a2 ≤ a0)), zu, H', ⟨by first | omega | exact Nat.le_refl _⟩, ⟨zy HB⟩⟩
   ·replace c9 := Bool.eq_false_iff.mpr c9
    subst c9; rw [if_neg (show ¬ (false = true) by decide)] at H; have H' := Aside0.mk H; clear H
    go_wp2_with (first | ((with_reducible refine gate_dst (N := 20) rfl ?_); (try (refine gate_guard (by rfl) ?_; dsimp only)); refine Kd.R_lit (Kd.int .i64) _ 3 ?hg (N := 20) ?hd (xs := ([a0] : List Int)) (inner := [.int .i64 a0]) (ok := fun _ => True) (okp := fun _ => True) ?hr ?hp (fun _ hk => hk) trivial (Below.refl _ _) (Nat.le_refl _) zO0_6 ?_; (case hd => rfl); (case hg => rfl); (case hr => first | (go_simp; done) | (go_simp; rfl)); (case hp => exact (Reps.one (show Kd.M (Kd.int .i64) _ _ _ a0 [.int .i64 a0] from rfl) (Reps.none _ _))); intro v212 w16 ho17 hb hg_ hnew_; clear hg_ hnew_; (first | rw [← Ny211.out] at ho17 | (simp only [Int.reduceToNat] at ho17; rw [← Ny211.out] at ho17)); have HO213 := Aside0.mk (Kd.R_lower ho17 (below_size (zy HB))); replace HB := zh HB hb; clear hb ho17; obtain ⟨Ao18, co18, eo18⟩ := Kd.R_slice HO213.out; subst eo18) | ((with_reducible refine gate_callee (f := 34) rfl ?_); refine zG (some 21) Tryd.func34 #[.slice Ao18 y211.length co18] ?_; (with_reducible refine (impl_areStaffs.calls _ _ y211 true _ ?side1 ?side2 A6.out).mono ?_); (case side1 => repeat (first | exact (Kd.R_reads' HO213.out).2.2 | (with_reducible refine Kd.C_alloc ?_ _) | (with_reducible refine Kd.C_drewN ?_ _) | (with_reducible refine Kd.C_drew ?_))); (case side2 => exact (Kd.R_reads' HO213.out).2.1); rintro e w' ⟨rfl, ⟨nd, rfl⟩⟩; refine ⟨_, rfl, ?_⟩) | ((with_reducible refine gate_dst (N := 27) rfl ?_); (try (refine gate_guard (by rfl) ?_; dsimp only)); refine Kd.R_lit (Kd.int .i64) _ 3 ?hg (N := 27) ?hd (xs := ([a1, a2, a3] : List Int)) (inner := [.int .i64 a1, .int .i64 a2, .int .i64 a3]) (ok := fun _ => True) (okp := fun _ => True) ?hr ?hp (fun _ hk => hk) trivial (Below.refl _ _) (Nat.le_refl _) zO0_6 ?_; (case hd => rfl); (case hg => rfl); (case hr => first | (go_simp; done) | (go_simp; rfl)); (case hp => exact (Reps.one (show Kd.M (Kd.int .i64) _ _ _ a1 [.int .i64 a1] from rfl) (Reps.one (show Kd.M (Kd.int .i64) _ _ _ a2 [.int .i64 a2] from rfl) (Reps.one (show Kd.M (Kd.int .i64) _ _ _ a3 [.int .i64 a3] from rfl) (Reps.none _ _))))); intro v216 w19 ho20 hb hg_ hnew_; clear hg_ hnew_; (first | rw [← Ny215.out] at ho20 | (simp only [Int.reduceToNat] at ho20; rw [← Ny215.out] at ho20)); have n0_ := Aside0.mk (Kd.R_elder' (zs HO213) (Kd.R_base ho20) hb); have HO217 := Aside0.mk (Kd.R_lower (Kd.R_new' ho20 (Kd.R_lt (zs HO213))) (below_size (zy HB))); replace HB := zh HB hb; clear HO213; have HO213 := n0_; clear n0_; clear hb ho20; obtain ⟨Ao21, co21, eo21⟩ := Kd.R_slice HO217.out; subst eo21) | (go_at_call 35; (with_reducible refine (impl_areSteps.calls _ _ y215 false _ ?side1 ?side2 A8.out).mono ?_); (case side1 => repeat (first | exact (Kd.R_reads' HO217.out).2.2 | (with_reducible refine Kd.C_alloc ?_ _) | (with_reducible refine Kd.C_drewN ?_ _) | (with_reducible refine Kd.C_drew ?_))); (case side2 => exact (Kd.R_reads' HO217.out).2.1); rintro e w' ⟨rfl, ⟨nd, rfl⟩⟩))
    go_meet
    case rel => exact ⟨_, (true), zu, H', ⟨by first | omega | exact Nat.le_refl _⟩, ⟨zy HB⟩⟩
  ·replace c7 := Bool.eq_false_iff.mpr c7
   subst c7; rw [if_neg (show ¬ (false = true) by decide)] at H; have H' := Aside0.mk H; clear H
   go_wp2_with (first | ((with_reducible refine gate_dst (N := 20) rfl ?_); (try (refine gate_guard (by rfl) ?_; dsimp only)); refine Kd.R_lit (Kd.int .i64) _ 3 ?hg (N := 20) ?hd (xs := ([a0] : List Int)) (inner := [.int .i64 a0]) (ok := fun _ => True) (okp := fun _ => True) ?hr ?hp (fun _ hk => hk) trivial (Below.refl _ _) (Nat.le_refl _) zO0_6 ?_; (case hd => rfl); (case hg => rfl); (case hr => first | (go_simp; done) | (go_simp; rfl)); (case hp => exact (Reps.one (show Kd.M (Kd.int .i64) _ _ _ a0 [.int .i64 a0] from rfl) (Reps.none _ _))); intro v212 w22 ho23 hb hg_ hnew_; clear hg_ hnew_; (first | rw [← Ny211.out] at ho23 | (simp only [Int.reduceToNat] at ho23; rw [← Ny211.out] at ho23)); have HO213 := Aside0.mk (Kd.R_lower ho23 (below_size (zy HB))); replace HB := zh HB hb; clear hb ho23; obtain ⟨Ao24, co24, eo24⟩ := Kd.R_slice HO213.out; subst eo24) | ((with_reducible refine gate_callee (f := 34) rfl ?_); refine zG (some 21) Tryd.func34 #[.slice Ao24 y211.length co24] ?_; (with_reducible refine (impl_areStaffs.calls _ _ y211 false _ ?side1 ?side2 A6.out).mono ?_); (case side1 => repeat (first | exact (Kd.R_reads' HO213.out).2.2 | (with_reducible refine Kd.C_alloc ?_ _) | (with_reducible refine Kd.C_drewN ?_ _) | (with_reducible refine Kd.C_drew ?_))); (case side2 => exact (Kd.R_reads' HO213.out).2.1); rintro e w' ⟨rfl, ⟨nd, rfl⟩⟩; refine ⟨_, rfl, ?_⟩))
   go_meet
   case rel => exact ⟨_, (true), zu, H', ⟨by first | omega | exact Nat.le_refl _⟩, ⟨zy HB⟩⟩
 case rest =>
  clear HC5
  obtain ⟨kq, x35_4, rfl, HA, HJ4, HB⟩ := hcut
  cases kq with
  | zero => exact absurd HA.out (by simp [impl_StepsForIsland.j0])
  | succ kj4 =>
   have H := HA.out; clear HA; simp only [impl_StepsForIsland.j0] at H
   by_cases c25 : x35_4 = true
   ·subst c25
    rw [if_pos rfl] at H; simp only [Option.some.injEq, Prod.mk.injEq] at H; obtain ⟨rfl, rfl, rfl, rfl, rfl⟩ := H
    go_wp2
    refine bodyPost_ret (results_list (rs := [.tmp 8, .tmp 9, .tmp 10, .tmp 11, .tmp 12]) rfl zO0_6 (.tmp (.tmp (.tmp (.tmp (.tmp .nil)))))) rfl ?_
    exact ⟨zt, zy HB⟩
   ·replace c25 := Bool.eq_false_iff.mpr c25
    subst c25; rw [if_neg (show ¬ (false = true) by decide)] at H; replace H := Option.bind_eq_some_iff.mp H; obtain ⟨⟨t219, t220, t221⟩, A260, H⟩ := H; (try dsimp only at H); have A26 := Aside0.mk A260; clear A260; replace H := Option.bind_eq_some_iff.mp H; obtain ⟨⟨t222, t223, t224⟩, A270, H⟩ := H
    replace H : (some (t219, t220, t222, t223, true)) = some (r1, r2, r3, r4, r5) := H
    have A27 := Aside0.mk A270; clear A270; simp only [Option.some.injEq, Prod.mk.injEq] at H; obtain ⟨rfl, rfl, rfl, rfl, rfl⟩ := H
    go_wp2_with (first | ((with_reducible refine gate_callee (f := 27) rfl ?_); refine zG (some 43) Tryd.func27 #[.int .i64 (wrap64 (a0 * a3)), .int .i64 (wrap64 (a2 - a0))] ?_; (with_reducible refine (impl_fraction.calls kj4 (wrap64 (a0 * a3)) (wrap64 (a2 - a0)) t219 t220 t221 _ A26.out).mono ?_); rintro e w28 ⟨rfl, hb⟩; refine ⟨_, rfl, ?_⟩; replace HB := zh HB hb; clear hb) | ((with_reducible refine gate_callee (f := 27) rfl ?_); refine zG (some 56) Tryd.func27 #[.int .i64 (wrap64 (a0 * (wrap64 (a3 + a1)))), .int .i64 (wrap64 (a2 - a0))] ?_; (with_reducible refine (impl_fraction.calls kj4 (wrap64 (a0 * (wrap64 (a3 + a1)))) (wrap64 (a2 - a0)) t222 t223 t224 _ A27.out).mono ?_); rintro e w29 ⟨rfl, hb⟩; refine ⟨_, rfl, ?_⟩; replace HB := zh HB hb; clear hb))
    refine bodyPost_ret (results_list (rs := [.tmp 8, .tmp 9, .tmp 10, .tmp 11, .tmp 12]) rfl zO0_6 (.tmp (.tmp (.tmp (.tmp (.tmp .nil)))))) rfl ?_
    exact ⟨zt, zy HB⟩


/-! ### strings_Cut: function 36 -/
/-- What the start-up code lays, all of it that these walks ask: the powers of ten, MaxLen, the two errors. -/
def LaidQ (w : World) : Prop := LaidP w ∧ (∃ m, w.cell? ⟨(Tryd.prog.globalNamed "internal/bytealg.MaxLen").getD 0, 0, none⟩ = some (.int .i64 m)) ∧ (∃ tp p, w.var? Tryd.prog "strconv.ErrSyntax" = some #[.iface tp p]) ∧ (∃ tp p, w.var? Tryd.prog "strconv.ErrRange" = some #[.iface tp p])
theorem var_below {w w' : World} {n : String} {cs : Array Value} (h : w.var? Tryd.prog n = some cs) (hb : Below w.heap.size w w') : w'.var? Tryd.prog n = some cs := by
 unfold World.var? at h ⊢
 cases hg : Tryd.prog.globalNamed n with
 | none => rw [hg] at h; simp at h
 | some g =>
  rw [hg] at h
  simp only [Option.bind_some] at h ⊢
  have hlt : g < w.heap.size := by
   rcases Nat.lt_or_ge g w.heap.size with h' | h'
   ·exact h'
   ·rw [Array.getElem?_eq_none h'] at h; cases h
  rw [hb.block g hlt]
  exact h
theorem LaidQ.p {w : World} (h : LaidQ w) : LaidP w := h.1
theorem LaidQ.below {w w' : World} (h : LaidQ w) (hb : Below w.heap.size w w') : LaidQ w' := by
 obtain ⟨h1, ⟨m, h2⟩, ⟨t3, p3, h3⟩, ⟨t4, p4, h4⟩⟩ := h
 exact ⟨h1.below hb, ⟨m, (hb.cell (World.block_lt_of_cell? w _ h2)).trans h2⟩, ⟨t3, p3, var_below h3 hb⟩, ⟨t4, p4, var_below h4 hb⟩⟩
def cutOf (a b : ByteArray) : ByteArray × ByteArray × Bool := (⟨(Lib.cut a.data.toList b.data.toList).1.toArray⟩, ⟨(Lib.cut a.data.toList b.data.toList).2.1.toArray⟩, (Lib.cut a.data.toList b.data.toList).2.2)
def strings_Cut.f (a0 a1 : ByteArray) : Option (ByteArray × ByteArray × Bool) := if a0.size < 4294967281 then some (cutOf a0 a1) else none
theorem strings_Cut.calls (a0 : ByteArray) (a1 : ByteArray) (r1 : ByteArray) (r2 : ByteArray) (r3 : Bool) (w : World) (hL_ : LaidQ w) (h : strings_Cut.f a0 a1 = some (r1, r2, r3)) :
  Calls Tryd.prog 36 #[.string a0, .string a1] w fun e w' => e = .returned (.tuple #[.string r1, .string r2, .bool r3]) ∧ Below w.heap.size w w' := by
 unfold strings_Cut.f at h
 by_cases hb : a0.size < 4294967281
 ·rw [if_pos hb] at h
  simp only [cutOf, Option.some.injEq, Prod.mk.injEq] at h
  obtain ⟨rfl, rfl, rfl⟩ := h
  obtain ⟨_, ⟨m, hm⟩, _⟩ := hL_
  refine (Tryd.strings_Cut a0 a1 m w hb hm).mono fun e w' hh => ?_
  obtain ⟨rfl, n, rfl⟩ := hh
  exact ⟨rfl, pw_below_drewN (Below.refl _ _) n⟩
 ·rw [if_neg hb] at h
  cases h



/-! ### impl_number: function 37 -/
/-- The number that a text tells, and whether the number's own text is that text. -/
def numOf (a0 : ByteArray) : Int × Bool := match Lib.atoiAll a0.data.toList with
 | .ok v => (v, ((⟨(Lib.itoa v).toArray⟩ : ByteArray).toList == a0.toList))
 | .«syntax» => (0, false)
 | .range => (Lib.atoiSat a0.data.toList, false)
def impl_number.f (a0 : ByteArray) : Option (Int × Bool) := if a0.size ≤ 281474976710656 then some (numOf a0) else none
set_option maxHeartbeats 8000000 in
set_option maxRecDepth 100000 in
theorem impl_number.calls (a0 : ByteArray) (r1 : Int) (r2 : Bool) (w : World) (hL_ : LaidQ w) (h : impl_number.f a0 = some (r1, r2)) :
  Calls Tryd.prog 37 #[.string a0] w fun e w' => e = .returned (.tuple #[.int .i64 r1, .bool r2]) ∧ Below w.heap.size w w' := by
 unfold impl_number.f at h
 by_cases hs : a0.size ≤ 281474976710656
 ·rw [if_pos hs] at h
  have h := Option.some.inj h
  have HL := Aside0.mk hL_
  have HB := Aside0.mk (Below.refl w.heap.size w)
  clear hL_
  cases ha : Lib.atoiAll a0.data.toList with
  | ok v =>
   have hbd := Lib.atoiAll_bounds ha
   have ht : impl_text.f v = some ⟨(Lib.itoa v).toArray⟩ := by
    unfold impl_text.f strconv_Itoa_44.f
    rw [if_pos (by have e1 : IntKind.i64.min = -9223372036854775808 := rfl; have e2 : IntKind.i64.max = 9223372036854775807 := rfl; omega)]
    rfl
   simp only [numOf, ha, Prod.mk.injEq] at h
   obtain ⟨rfl, rfl⟩ := h
   have HT := Aside0.mk ht; clear ht hbd
   generalize hq : (⟨(Lib.itoa v).toArray⟩ : ByteArray) = q at HT
   have c1 := fun W => (Tryd.strconv_Atoi_ok a0 (by omega) v ha W).mono (R' := fun e w' => e = .returned (.tuple #[.int .i64 v, .nilIface]) ∧ Below W.heap.size W w') (fun e w' hh => by
    obtain ⟨rfl, rfl | ⟨t, rfl⟩⟩ := hh
    ·exact ⟨rfl, Below.refl _ _⟩
    ·exact ⟨rfl, rfl, rfl, rfl, by rw [Lib.bytesWorld_size]; omega, fun k hk => Lib.bytesWorld_at_old W _ t k hk⟩)
   clear ha hq
   go_enter Tryd.func37, Tryd.ntmps37
   go_wp2_with (first | (go_at_call 51; refine (c1 _).mono ?_; rintro e w1 ⟨rfl, hb⟩; have n0_ := Aside0.mk (below_step zO0_1 hb); clear HB hb; have HB := n0_; clear n0_) | (go_at_call 32; refine (impl_text.calls v q _ (LaidP.below HL.out.1 zO0_1) HT.out).mono ?_; rintro e w2 ⟨rfl, hb⟩; have n0_ := Aside0.mk (below_step zO0_1 hb); clear HB hb; have HB := n0_; clear n0_))
   go_ret2
   exact ⟨by first | rfl | (simp; done) | (simp [*]; done), by repeat (first | (with_reducible first | exact HB.out | apply below_alloc | apply pw_below_drewN | apply below_drew1) | exact HB.out)⟩
  | «syntax» =>
   simp only [numOf, ha, Prod.mk.injEq] at h
   obtain ⟨rfl, rfl⟩ := h
   obtain ⟨_, _, ⟨tp, p, hv⟩, _⟩ := HL.out
   have c1 := (Tryd.strconv_Atoi_syntax_var a0 hs ha tp p w hv)
   clear ha hv
   go_enter Tryd.func37, Tryd.ntmps37
   go_wp2_with (go_at_call 51; refine c1.mono ?_; rintro e w1 ⟨N_, rfl, _, _, hb⟩; have n0_ := Aside0.mk (below_step zO0_1 hb); clear HB hb; have HB := n0_; clear n0_)
   go_ret2
   exact ⟨by first | rfl | (simp; done) | (simp [*]; done), by repeat (first | (with_reducible first | exact HB.out | apply below_alloc | apply pw_below_drewN | apply below_drew1) | exact HB.out)⟩
  | range =>
   simp only [numOf, ha, Prod.mk.injEq] at h
   obtain ⟨rfl, rfl⟩ := h
   obtain ⟨_, _, _, ⟨tp, p, hv⟩⟩ := HL.out
   have c1 := (Tryd.strconv_Atoi_range_var a0 hs ha tp p w hv)
   clear ha hv
   generalize Lib.atoiSat a0.data.toList = z at c1 ⊢
   go_enter Tryd.func37, Tryd.ntmps37
   go_wp2_with (go_at_call 51; refine c1.mono ?_; rintro e w1 ⟨N_, rfl, _, _, hb⟩; have n0_ := Aside0.mk (below_step zO0_1 hb); clear HB hb; have HB := n0_; clear n0_)
   go_ret2
   exact ⟨by first | rfl | (simp; done) | (simp [*]; done), by repeat (first | (with_reducible first | exact HB.out | apply below_alloc | apply pw_below_drewN | apply below_drew1) | exact HB.out)⟩
 ·rw [if_neg hs] at h
  cases h



/-! ### impl_checkedIsland: function 38 -/
def impl_checkedIsland.f (a0_0 : Int) (a0_1 : Int) (a0_2 : Int) (a0_3 : Int) : Option (Int × Int × Int × Int × Bool) := (impl_IsIsland.f a0_0 a0_1 a0_2 a0_3).bind fun t244 => (if t244 = true then (some (a0_0, a0_1, a0_2, a0_3, true)) else (some (0, 0, 0, 0, false)))
set_option maxHeartbeats 8000000 in
set_option maxRecDepth 100000 in
theorem impl_checkedIsland.calls (a0_0 : Int) (a0_1 : Int) (a0_2 : Int) (a0_3 : Int) (r1 : Int) (r2 : Int) (r3 : Int) (r4 : Int) (r5 : Bool) (w : World) (h : impl_checkedIsland.f a0_0 a0_1 a0_2 a0_3 = some (r1, r2, r3, r4, r5)) :
  Calls Tryd.prog 38 #[.agg #[.int .i64 a0_0, .int .i64 a0_1, .int .i64 a0_2, .int .i64 a0_3]] w fun e w' => e = .returned (.tuple #[.agg #[.int .i64 r1, .int .i64 r2, .int .i64 r3, .int .i64 r4], .bool r5]) ∧ Below w.heap.size w w' := by
 have hu23 := Tryd.underlying23
 have HB := Aside0.mk (Below.refl w.heap.size w)
 have H : ((impl_IsIsland.f a0_0 a0_1 a0_2 a0_3).bind fun t244 => (if t244 = true then (some (a0_0, a0_1, a0_2, a0_3, true)) else (some (0, 0, 0, 0, false)))) = some (r1, r2, r3, r4, r5) := h
 clear h; replace H := Option.bind_eq_some_iff.mp H; obtain ⟨t244, A20, H⟩ := H
 replace H : (if t244 = true then (some (a0_0, a0_1, a0_2, a0_3, true)) else (some (0, 0, 0, 0, false))) = some (r1, r2, r3, r4, r5) := H
 have A2 := Aside0.mk A20; clear A20
 by_cases c3 : t244 = true
 ·subst c3
  rw [if_pos rfl] at H; simp only [Option.some.injEq, Prod.mk.injEq] at H; obtain ⟨rfl, rfl, rfl, rfl, rfl⟩ := H
  go_enter Tryd.func38, Tryd.ntmps38
  go_wp2_with (first | ((with_reducible refine gate_dst (N := 1) rfl ?_); refine zE 1 #[.int .i64 a0_0, .int .i64 a0_1, .int .i64 a0_2, .int .i64 a0_3] 23 ?_; intro gb242 hg w4 hbox hb; have BK242 := Aside0.mk (hbox); have GW242 := zg HB hg; have GE242 := GW242; replace HB := zh HB hb; clear hb hbox hg) | ((with_reducible refine gate_dst (N := 2) rfl ?_); refine zE 2 #[.int .i64 0, .int .i64 0, .int .i64 0, .int .i64 0] 23 ?_; intro gb243 hg w5 hbox hb; have BK243 := Aside0.mk (hbox); have GW243 := zg HB hg; have GE243 := GW243; have NB242_243 := zl BK242 hg; have NB243_242 := zr BK242 hg; replace BK242 := zb BK242 hb; replace HB := zh HB hb; clear hb hbox hg; have hnb6 := NB242_243.out; have hnc6 := NB243_242.out; obtain ⟨_, _, _, _, _, _, _, _⟩ := zc4 BK242) | ((with_reducible refine gate_callee (f := 12) rfl ?_); refine zG (some 5) Tryd.func12 #[.agg #[.int .i64 a0_0, .int .i64 a0_1, .int .i64 a0_2, .int .i64 a0_3]] ?_; (with_reducible refine (impl_IsIsland.calls a0_0 a0_1 a0_2 a0_3 true _ A2.out).mono ?_); rintro e w8 ⟨rfl, hb⟩; refine ⟨_, rfl, ?_⟩; replace BK242 := zb BK242 hb; replace BK243 := zb BK243 hb; replace HB := zh HB hb; clear hb; obtain ⟨_, _, _, _, _, _, _, _⟩ := zc4 BK242; obtain ⟨_, _, _, _, _, _, _, _⟩ := zc4 BK243))
  refine bodyPost_ret (results_ct rfl _ _ gb243 23 #[.int .i64 a0_0, .int .i64 a0_1, .int .i64 a0_2, .int .i64 a0_3] (0, 0) _ rfl (zw BK243) Tryd.underlying23 rfl (by kernel_rfl)) rfl ?_
  exact ⟨zt, zy HB⟩
 ·replace c3 := Bool.eq_false_iff.mpr c3
  subst c3; rw [if_neg (show ¬ (false = true) by decide)] at H; simp only [Option.some.injEq, Prod.mk.injEq] at H; obtain ⟨rfl, rfl, rfl, rfl, rfl⟩ := H
  go_enter Tryd.func38, Tryd.ntmps38
  go_wp2_with (first | ((with_reducible refine gate_dst (N := 1) rfl ?_); refine zE 1 #[.int .i64 a0_0, .int .i64 a0_1, .int .i64 a0_2, .int .i64 a0_3] 23 ?_; intro gb242 hg w11 hbox hb; have BK242 := Aside0.mk (hbox); have GW242 := zg HB hg; have GE242 := GW242; replace HB := zh HB hb; clear hb hbox hg) | ((with_reducible refine gate_dst (N := 2) rfl ?_); refine zE 2 #[.int .i64 0, .int .i64 0, .int .i64 0, .int .i64 0] 23 ?_; intro gb243 hg w12 hbox hb; have BK243 := Aside0.mk (hbox); have GW243 := zg HB hg; have GE243 := GW243; have NB242_243 := zl BK242 hg; have NB243_242 := zr BK242 hg; replace BK242 := zb BK242 hb; replace HB := zh HB hb; clear hb hbox hg; have hnb13 := NB242_243.out; have hnc13 := NB243_242.out; obtain ⟨_, _, _, _, _, _, _, _⟩ := zc4 BK242) | ((with_reducible refine gate_callee (f := 12) rfl ?_); refine zG (some 5) Tryd.func12 #[.agg #[.int .i64 a0_0, .int .i64 a0_1, .int .i64 a0_2, .int .i64 a0_3]] ?_; (with_reducible refine (impl_IsIsland.calls a0_0 a0_1 a0_2 a0_3 false _ A2.out).mono ?_); rintro e w15 ⟨rfl, hb⟩; refine ⟨_, rfl, ?_⟩; replace BK242 := zb BK242 hb; replace BK243 := zb BK243 hb; replace HB := zh HB hb; clear hb; obtain ⟨_, _, _, _, _, _, _, _⟩ := zc4 BK243))
  refine bodyPost_ret (results_ct rfl _ _ gb243 23 #[.int .i64 0, .int .i64 0, .int .i64 0, .int .i64 0] (0, 0) _ rfl (zw BK243) Tryd.underlying23 rfl (by kernel_rfl)) rfl ?_
  exact ⟨zt, zy HB⟩

end Go.Proofs.YtakodhlaphloeaaDoor.P
