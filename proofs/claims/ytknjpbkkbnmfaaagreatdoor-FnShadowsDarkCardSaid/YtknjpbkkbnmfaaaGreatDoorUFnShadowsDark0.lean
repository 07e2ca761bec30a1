/- The law FnShadowsDark is proved: a call of it returns true and leaves its arguments as they were; and what this needs. Every input that the given rows speak of; nothing else is asked. -/
import Derived.Shelf.Strings.Builder1
import Derived.Shelf.Strings.Builder2
import Derived.Shelf.Strings.OnBuilder
import Derived.Shelf.Strings.BuilderF
import Derived.Shelf.Strings.BuilderK
import Derived.Shelf.Utf8.RuneCount
import Derived.Shelf.Strings.Builder2Cap
import Derived.Shelf.Strconv.Atoi
import Derived.Shelf.Strconv.Itoa0
import Derived.Shelf.Strconv.Itoa1
import Derived.Shelf.LaysM
import Derived.Shelf.Strconv.Itoa2
import Derived.Shelf.Strconv.Itoa3
import Derived.Shelf.Strconv.AtoiErrFast
import Derived.Shelf.Strconv.ParseIntEmpty
import Derived.Shelf.Strconv.AtoiFail
import Derived.Shelf.Strconv.Clone
import Derived.Shelf.Strconv.SyntaxError
import Derived.Shelf.LaysC
import Derived.Shelf.Strconv.ToError
import Derived.Shelf.Strconv.AtoiErr
import Derived.Shelf.Strconv.ErrVar
import Derived.Shelf.Strconv.Lower
import Derived.Shelf.Strconv.ParseUint10
import Derived.Shelf.Strconv.ParseUint10Empty
import Derived.Shelf.Strconv.ParseUint10Any
import Derived.Shelf.Strconv.ParseInt10
import Derived.Shelf.Strconv.AtoiLong
import Derived.Shelf.Strconv.AtoiInnerAll
import Derived.Shelf.Strconv.RangeError
import Derived.Shelf.Strconv.ToErrorRange
import Derived.Shelf.Strconv.AtoiAll
import Derived.Shelf.Strconv.ErrVarAll
import Derived.Shelf.Strconv.ParseUintEmpty
import Derived.Shelf.Strconv.ParseUint10b64
import Derived.Shelf.Strconv.ParseUint10b32
import Derived.Shelf.Strconv.ParseUint10b16
import Derived.Shelf.Strconv.ParseUint10b8
import Derived.Shelf.Strconv.ParseUint10At
import Derived.Shelf.Strconv.ParseInt10At64
import Derived.Shelf.Strconv.ParseInt10At32
import Derived.Shelf.Strconv.ParseInt10At16
import Derived.Shelf.Strconv.ParseInt10At8
import Derived.Shelf.Strconv.ParseInt10All
import Derived.Shelf.Strings.Search1
import Derived.Shelf.Strings.Search2
import Derived.Shelf.Strings.Search3
import Derived.Shelf.Strings.Cut
import Derived.Shelf.Strings.Count
import Derived.Shelf.Strings.Shaped
import Derived.Shelf.Strings.Split
import Derived.Shelf.Strings.SplitShaped
import Derived.Shelf.Unicode.Decode
import Derived.Shelf.Strings.RuneCount
import Derived.Shelf.Strings.Explode
import Derived.Shelf.Unicode.DecodeSlow
import Derived.Shelf.Unicode.DecodeAny
import Derived.Shelf.Strings.BuilderCap
import Derived.Test.YtknjpbkkbnmfaaaGreatDoorProg
import Derived.Below
import Derived.Deep.Draws
import Derived.Deep.AppendLies
import Derived.Maps.AppendAt
import Derived.OwnWalk
import Derived.Laws.BytesArg
import Derived.Laws.MakeOwn
import Derived.Laws.OwnMore
import Derived.Deep.OwnRows
import Derived.Tactics
import Derived.Lib.ConvBytes
import Derived.Laws.Slices
import Derived.WalkKit
import Derived.KernelRfl
import Derived.RowKit3
import Derived.Deep.LoopGhost
import Derived.Deep.QuietTactic
import Derived.BigQuiet
import Derived.WideLaws
import Derived.Deep.DeepCutAuto
import Derived.Deep.CutBlock
import Derived.Deep.RegionHeld3
import Derived.Laws.Rows
import Derived.Lib.AppendStr
import Derived.ArgAppend
import Derived.Laws.IdiomCopy
import Derived.OrdersHeld
import Derived.Laws.BitsLemmas
import Derived.RowKit
import Derived.Shelf.Abstract
import Derived.WalkSpells
import Derived.Lib.SliceRun
import Derived.Test.YtknjpbkkbnmfaaaGreatDoorUW
set_option maxHeartbeats 8000000
set_option maxRecDepth 100000
namespace Go.Proofs.YtknjpbkkbnmfaaaGreatDoor.P
open Go.RowKit Go.Proofs.YtknjpbkkbnmfaaaGreatDoorW.PrintWords Go.Proofs.YtknjpbkkbnmfaaaGreatDoorW.PrintLast Go.Proofs.YtknjpbkkbnmfaaaGreatDoorW.PrintMore
set_option linter.unusedVariables false
theorem zU0_0 {p : Prop} (h : p := by (try simp only [List.map_toArray, List.map_cons, List.map_nil]); first | done | rfl | (simp only [List.length_drop, List.length_take]; rfl)) : p := h
theorem zU0_1 {p : Prop} (h : p := by first | (with_reducible assumption) | assumption) : p := h
theorem zU0_2 {p : Prop} (h : p := by assumption) : p := h
theorem zU0_3 {p : Prop} (h : p := by omega) : p := h
theorem zU0_4 {p : Prop} (h : p := by simp) : p := h
end Go.Proofs.YtknjpbkkbnmfaaaGreatDoor.P
namespace Go.Proofs
open Go.Shelf
def Tryz.lays156_ren : Go.Shelf.Ren := ⟨fun | 156 => 51 | 165 => 70 | 166 => 71 | 169 => 72 | 240 => 83 | 241 => 84 | 276 => 92 | 277 => 93 | n => n, fun | 31 => 73 | 9 => 9 | 3 => 3 | 4 => 4 | 0 => 0 | 20 => 20 | 72 => 89 | 76 => 93 | 70 => 87 | 37 => 22 | 75 => 92 | 127 => 99 | 164 => 105 | 5 => 5 | 80 => 95 | n => n, fun | n => n⟩
theorem Tryz.lays156 : Go.Proofs.Lays.n156 Tryz.prog Tryz.lays156_ren := {
 mixed := by kernel_rfl
 f156 := Tryz.func51.trans (congrArg some (by kernel_rfl))
 f165 := Tryz.func70.trans (congrArg some (by kernel_rfl))
 f166 := Tryz.func71.trans (congrArg some (by kernel_rfl))
 f169 := Tryz.func72.trans (congrArg some (by kernel_rfl))
 f240 := Tryz.func83.trans (congrArg some (by kernel_rfl))
 f241 := Tryz.func84.trans (congrArg some (by kernel_rfl))
 f276 := Tryz.func92.trans (congrArg some (by kernel_rfl))
 f277 := Tryz.func93.trans (congrArg some (by kernel_rfl))
 t0 := Tryz.underlying0
 a0 := Tryz.isAgg0
 z0 := Tryz.sizeOf0
 v0 := Tryz.zeroValue0
 t3 := Tryz.underlying3
 a3 := Tryz.isAgg3
 z3 := Tryz.sizeOf3
 v3 := Tryz.zeroValue3
 t4 := Tryz.underlying4
 a4 := Tryz.isAgg4
 z4 := Tryz.sizeOf4
 v4 := Tryz.zeroValue4
 t9 := Tryz.underlying9
 a9 := Tryz.isAgg9
 z9 := Tryz.sizeOf9
 v9 := Tryz.zeroValue9
 t20 := Tryz.underlying20
 a20 := Tryz.isAgg20
 z20 := Tryz.sizeOf20
 v20 := Tryz.zeroValue20
 t31 := Tryz.underlying73
 a31 := Tryz.isAgg73
 z31 := Tryz.sizeOf73
 v31 := Tryz.zeroValue73
 t37 := Tryz.underlying22
 a37 := Tryz.isAgg22
 z37 := Tryz.sizeOf22
 v37 := Tryz.zeroValue22
 t70 := Tryz.underlying87
 a70 := Tryz.isAgg87
 z70 := Tryz.sizeOf87
 v70 := Tryz.zeroValue87
 t72 := Tryz.underlying89
 a72 := Tryz.isAgg89
 z72 := Tryz.sizeOf89
 v72 := Tryz.zeroValue89
 t75 := Tryz.underlying92
 a75 := Tryz.isAgg92
 z75 := Tryz.sizeOf92
 v75 := Tryz.zeroValue92
 t76 := Tryz.underlying93
 a76 := Tryz.isAgg93
 z76 := Tryz.sizeOf93
 v76 := Tryz.zeroValue93
 t127 := Tryz.underlying99
 a127 := Tryz.isAgg99
 z127 := Tryz.sizeOf99
 v127 := Tryz.zeroValue99
 t164 := Tryz.underlying105
 a164 := Tryz.isAgg105
 z164 := Tryz.sizeOf105
 v164 := Tryz.zeroValue105 }
theorem Tryz.Builder_Extra_156 : Builder.Extra Tryz.prog Tryz.lays156_ren := {
 sizeBuilder := by kernel_rfl
 liesBuilder := by kernel_rfl
 t5 := Tryz.underlying5
 a5 := Tryz.isAgg5
 z5 := Tryz.sizeOf5
 v5 := Tryz.zeroValue5
 infoByte := by kernel_rfl
 cellsByte := by kernel_rfl
 sizeByte := by kernel_rfl
 neB5 := by decide }
open Go.RowKit in
/-- No element: the empty string; the world is as it was. (Whatever the slice's address and capacity: a nil slice too.) (LAID: no walk: one application.) -/
theorem Tryz.strings_Join_none (a : Option Addr) (c : Nat) (sep : ByteArray) (w : World) :
 Calls Tryz.prog 51 #[.slice a 0 c, .string sep] w fun e w' => e = .returned (.string ⟨#[]⟩) ∧ w' = w := Any.strings_Join_none Tryz.lays156 Tryz.Builder_Extra_156 a c sep w
open Go.RowKit in
/-- strings.Join: "Join concatenates the elements of its first argument to create a single string. The separator string sep is placed between elements in the resulting string.": HOWEVER MANY ELEMENTS. Below the heap's end the world is as it was. (LAID: no walk: one application.) -/
theorem Tryz.strings_Join (bk o c : Nat) (xs : List ByteArray) (sep : ByteArray) (w : World) (hcells : ∀ (j : Nat) x, xs[j]? = some x → w.cell? ⟨bk, o + j, none⟩ = some (.string x)) (hbk : bk < w.heap.size) (hN : xs.length ≤ 140737488355328) (hcap : xs.length ≤ c) (hlen : (Lib.join (xs.map (·.data.toList)) sep.data.toList).length ≤ 140737488355328) :
 Calls Tryz.prog 51 #[.slice (some ⟨bk, o, none⟩) xs.length c, .string sep] w fun e w' => e = .returned (.string ⟨(Lib.join (xs.map (·.data.toList)) sep.data.toList).toArray⟩) ∧ Below w.heap.size w w' := Any.strings_Join Tryz.lays156 Tryz.Builder_Extra_156 bk o c xs sep w hcells hbk hN hcap hlen
def Tryz.laysM171_ren : Go.Shelf.Ren := ⟨fun | 171 => 69 | 243 => 82 | 246 => 91 | 283 => 106 | 284 => 107 | 285 => 108 | 286 => 109 | 129 => 117 | 317 => 116 | 318 => 118 | 319 => 119 | 320 => 120 | 337 => 123 | 338 => 124 | n => n, fun | 3 => 3 | 9 => 9 | 2 => 2 | 4 => 4 | 171 => 117 | 0 => 0 | 53 => 59 | 37 => 22 | 5 => 5 | 173 => 120 | 212 => 132 | 51 => 122 | 20 => 20 | 213 => 133 | 46 => 103 | 232 => 145 | 233 => 146 | n => n, fun | 17 => 3 | 18 => 6 | 19 => 7 | n => n⟩
theorem Tryz.laysM171 : Go.Proofs.LaysM.n171 Tryz.prog Tryz.laysM171_ren := {
 mixed := by kernel_rfl
 f129 := Tryz.func117.trans (congrArg some (by kernel_rfl))
 f171 := Tryz.func69.trans (congrArg some (by kernel_rfl))
 f243 := Tryz.func82.trans (congrArg some (by kernel_rfl))
 f246 := Tryz.func91.trans (congrArg some (by kernel_rfl))
 f283 := Tryz.func106.trans (congrArg some (by kernel_rfl))
 f284 := Tryz.func107.trans (congrArg some (by kernel_rfl))
 f285 := Tryz.func108.trans (congrArg some (by kernel_rfl))
 f286 := Tryz.func109.trans (congrArg some (by kernel_rfl))
 f317 := Tryz.func116.trans (congrArg some (by kernel_rfl))
 f318 := Tryz.func118.trans (congrArg some (by kernel_rfl))
 f319 := Tryz.func119.trans (congrArg some (by kernel_rfl))
 f320 := Tryz.func120.trans (congrArg some (by kernel_rfl))
 f337 := Tryz.func123.trans (congrArg some (by kernel_rfl))
 f338 := Tryz.func124.trans (congrArg some (by kernel_rfl))
 t0 := Tryz.underlying0
 a0 := Tryz.isAgg0
 z0 := Tryz.sizeOf0
 v0 := Tryz.zeroValue0
 t2 := Tryz.underlying2
 a2 := Tryz.isAgg2
 z2 := Tryz.sizeOf2
 v2 := Tryz.zeroValue2
 t3 := Tryz.underlying3
 a3 := Tryz.isAgg3
 z3 := Tryz.sizeOf3
 v3 := Tryz.zeroValue3
 t4 := Tryz.underlying4
 a4 := Tryz.isAgg4
 z4 := Tryz.sizeOf4
 v4 := Tryz.zeroValue4
 t5 := Tryz.underlying5
 a5 := Tryz.isAgg5
 z5 := Tryz.sizeOf5
 v5 := Tryz.zeroValue5
 t9 := Tryz.underlying9
 a9 := Tryz.isAgg9
 z9 := Tryz.sizeOf9
 v9 := Tryz.zeroValue9
 t20 := Tryz.underlying20
 a20 := Tryz.isAgg20
 z20 := Tryz.sizeOf20
 v20 := Tryz.zeroValue20
 t37 := Tryz.underlying22
 a37 := Tryz.isAgg22
 z37 := Tryz.sizeOf22
 v37 := Tryz.zeroValue22
 t46 := Tryz.underlying103
 a46 := Tryz.isAgg103
 z46 := Tryz.sizeOf103
 v46 := Tryz.zeroValue103
 t51 := Tryz.underlying122
 a51 := Tryz.isAgg122
 z51 := Tryz.sizeOf122
 v51 := Tryz.zeroValue122
 t53 := Tryz.underlying59
 a53 := Tryz.isAgg59
 z53 := Tryz.sizeOf59
 v53 := Tryz.zeroValue59
 t171 := Tryz.underlying117
 a171 := Tryz.isAgg117
 z171 := Tryz.sizeOf117
 v171 := Tryz.zeroValue117
 t173 := Tryz.underlying120
 a173 := Tryz.isAgg120
 z173 := Tryz.sizeOf120
 v173 := Tryz.zeroValue120
 t212 := Tryz.underlying132
 a212 := Tryz.isAgg132
 z212 := Tryz.sizeOf132
 v212 := Tryz.zeroValue132
 t213 := Tryz.underlying133
 a213 := Tryz.isAgg133
 z213 := Tryz.sizeOf133
 t232 := Tryz.underlying145
 a232 := Tryz.isAgg145
 z232 := Tryz.sizeOf145
 v232 := Tryz.zeroValue145
 t233 := Tryz.underlying146
 a233 := Tryz.isAgg146
 z233 := Tryz.sizeOf146
 v233 := Tryz.zeroValue146
 g17 := by kernel_rfl
 g18 := by kernel_rfl
 g19 := by kernel_rfl
 i0 := by kernel_rfl
 i2 := by kernel_rfl
 i3 := by kernel_rfl
 i4 := by kernel_rfl
 i5 := by kernel_rfl
 i9 := by kernel_rfl
 i20 := by kernel_rfl
 i37 := by kernel_rfl
 i46 := by kernel_rfl
 i51 := by kernel_rfl
 i53 := by kernel_rfl
 i171 := by kernel_rfl
 i173 := by kernel_rfl
 i212 := by kernel_rfl
 i232 := by kernel_rfl
 i233 := by kernel_rfl
 m17 := by kernel_rfl
 m18 := by kernel_rfl
 m19 := by kernel_rfl }
open Go.RowKit Go.Sort Go.Lib in
/-- strconv.Itoa: "Itoa is equivalent to FormatInt(int64(i), 10).": i's DECIMAL NUMERAL ('Lib.itoa': a '-' where i is negative, then the digits), FOR EVERY int. The world behind the call: the world before it, new blocks behind the heap (the library's 'var a [24]byte'), draws. (LAID: no walk: one application.) -/
theorem Tryz.strconv_Itoa (n : Int) (h0 : -9223372036854775808 ≤ n) (h1 : n ≤ 9223372036854775807) (w : World) (htab : Lib.TabIs Tryz.prog w "internal/strconv.uint64pow10" .u64 Lib.pow10Tab) :
 Calls Tryz.prog 69 #[.int .i64 n] w fun e w' => e = .returned (.string ⟨(Lib.itoa n).toArray⟩) ∧ ∃ k os, w' = grow (w.drewN k) os := Any.strconv_Itoa Tryz.laysM171 n h0 h1 w htab
def Tryz.laysC172_ren : Go.Shelf.Ren := ⟨fun | 172 => 76 | 244 => 89 | 245 => 90 | 247 => 101 | 279 => 102 | 280 => 103 | 281 => 104 | 282 => 105 | 287 => 113 | 316 => 114 | 171 => 69 | 205 => 115 | 321 => 121 | 322 => 122 | 243 => 82 | 246 => 91 | 283 => 106 | 284 => 107 | 285 => 108 | 286 => 109 | 129 => 117 | 317 => 116 | 318 => 118 | 319 => 119 | 320 => 120 | 337 => 123 | 338 => 124 | n => n, fun | 9 => 9 | 3 => 3 | 75 => 92 | 76 => 93 | 4 => 4 | 5 => 5 | 167 => 111 | 37 => 22 | 0 => 0 | 85 => 112 | 2 => 2 | 168 => 114 | 53 => 59 | 175 => 125 | 46 => 103 | 210 => 129 | 127 => 99 | 145 => 143 | 143 => 141 | 21 => 21 | 171 => 117 | 173 => 120 | 212 => 132 | 51 => 122 | 20 => 20 | 213 => 133 | 232 => 145 | 233 => 146 | 80 => 95 | n => n, fun | 15 => 1 | 16 => 2 | 17 => 3 | 18 => 6 | 19 => 7 | n => n⟩
theorem Tryz.laysC172 : Go.Proofs.LaysC.n172 Tryz.prog Tryz.laysC172_ren := {
 mixed := by kernel_rfl
 f129 := Tryz.func117.trans (congrArg some (by kernel_rfl))
 f171 := Tryz.func69.trans (congrArg some (by kernel_rfl))
 f172 := Tryz.func76.trans (congrArg some (by kernel_rfl))
 f205 := Tryz.func115.trans (congrArg some (by kernel_rfl))
 f243 := Tryz.func82.trans (congrArg some (by kernel_rfl))
 f244 := Tryz.func89.trans (congrArg some (by kernel_rfl))
 f245 := Tryz.func90.trans (congrArg some (by kernel_rfl))
 f246 := Tryz.func91.trans (congrArg some (by kernel_rfl))
 f247 := Tryz.func101.trans (congrArg some (by kernel_rfl))
 f279 := Tryz.func102.trans (congrArg some (by kernel_rfl))
 f280 := Tryz.func103.trans (congrArg some (by kernel_rfl))
 f281 := Tryz.func104.trans (congrArg some (by kernel_rfl))
 f282 := Tryz.func105.trans (congrArg some (by kernel_rfl))
 f283 := Tryz.func106.trans (congrArg some (by kernel_rfl))
 f284 := Tryz.func107.trans (congrArg some (by kernel_rfl))
 f285 := Tryz.func108.trans (congrArg some (by kernel_rfl))
 f286 := Tryz.func109.trans (congrArg some (by kernel_rfl))
 f287 := Tryz.func113.trans (congrArg some (by kernel_rfl))
 f316 := Tryz.func114.trans (congrArg some (by kernel_rfl))
 f317 := Tryz.func116.trans (congrArg some (by kernel_rfl))
 f318 := Tryz.func118.trans (congrArg some (by kernel_rfl))
 f319 := Tryz.func119.trans (congrArg some (by kernel_rfl))
 f320 := Tryz.func120.trans (congrArg some (by kernel_rfl))
 f321 := Tryz.func121.trans (congrArg some (by kernel_rfl))
 f322 := Tryz.func122.trans (congrArg some (by kernel_rfl))
 f337 := Tryz.func123.trans (congrArg some (by kernel_rfl))
 f338 := Tryz.func124.trans (congrArg some (by kernel_rfl))
 t0 := Tryz.underlying0
 a0 := Tryz.isAgg0
 z0 := Tryz.sizeOf0
 v0 := Tryz.zeroValue0
 t2 := Tryz.underlying2
 a2 := Tryz.isAgg2
 z2 := Tryz.sizeOf2
 v2 := Tryz.zeroValue2
 t3 := Tryz.underlying3
 a3 := Tryz.isAgg3
 z3 := Tryz.sizeOf3
 v3 := Tryz.zeroValue3
 t4 := Tryz.underlying4
 a4 := Tryz.isAgg4
 z4 := Tryz.sizeOf4
 v4 := Tryz.zeroValue4
 t5 := Tryz.underlying5
 a5 := Tryz.isAgg5
 z5 := Tryz.sizeOf5
 v5 := Tryz.zeroValue5
 t9 := Tryz.underlying9
 a9 := Tryz.isAgg9
 z9 := Tryz.sizeOf9
 v9 := Tryz.zeroValue9
 t20 := Tryz.underlying20
 a20 := Tryz.isAgg20
 z20 := Tryz.sizeOf20
 v20 := Tryz.zeroValue20
 t21 := Tryz.underlying21
 a21 := Tryz.isAgg21
 z21 := Tryz.sizeOf21
 v21 := Tryz.zeroValue21
 t37 := Tryz.underlying22
 a37 := Tryz.isAgg22
 z37 := Tryz.sizeOf22
 v37 := Tryz.zeroValue22
 t46 := Tryz.underlying103
 a46 := Tryz.isAgg103
 z46 := Tryz.sizeOf103
 v46 := Tryz.zeroValue103
 t51 := Tryz.underlying122
 a51 := Tryz.isAgg122
 z51 := Tryz.sizeOf122
 v51 := Tryz.zeroValue122
 t53 := Tryz.underlying59
 a53 := Tryz.isAgg59
 z53 := Tryz.sizeOf59
 v53 := Tryz.zeroValue59
 t75 := Tryz.underlying92
 a75 := Tryz.isAgg92
 z75 := Tryz.sizeOf92
 v75 := Tryz.zeroValue92
 t76 := Tryz.underlying93
 a76 := Tryz.isAgg93
 z76 := Tryz.sizeOf93
 v76 := Tryz.zeroValue93
 t85 := Tryz.underlying112
 a85 := Tryz.isAgg112
 z85 := Tryz.sizeOf112
 v85 := Tryz.zeroValue112
 t127 := Tryz.underlying99
 a127 := Tryz.isAgg99
 z127 := Tryz.sizeOf99
 v127 := Tryz.zeroValue99
 t143 := Tryz.underlying141
 a143 := Tryz.isAgg141
 z143 := Tryz.sizeOf141
 v143 := Tryz.zeroValue141
 t145 := Tryz.underlying143
 a145 := Tryz.isAgg143
 z145 := Tryz.sizeOf143
 v145 := Tryz.zeroValue143
 t167 := Tryz.underlying111
 a167 := Tryz.isAgg111
 z167 := Tryz.sizeOf111
 v167 := Tryz.zeroValue111
 t168 := Tryz.underlying114
 a168 := Tryz.isAgg114
 z168 := Tryz.sizeOf114
 v168 := Tryz.zeroValue114
 t171 := Tryz.underlying117
 a171 := Tryz.isAgg117
 z171 := Tryz.sizeOf117
 v171 := Tryz.zeroValue117
 t173 := Tryz.underlying120
 a173 := Tryz.isAgg120
 z173 := Tryz.sizeOf120
 v173 := Tryz.zeroValue120
 t175 := Tryz.underlying125
 a175 := Tryz.isAgg125
 z175 := Tryz.sizeOf125
 v175 := Tryz.zeroValue125
 t210 := Tryz.underlying129
 a210 := Tryz.isAgg129
 z210 := Tryz.sizeOf129
 v210 := Tryz.zeroValue129
 t212 := Tryz.underlying132
 a212 := Tryz.isAgg132
 z212 := Tryz.sizeOf132
 v212 := Tryz.zeroValue132
 t213 := Tryz.underlying133
 a213 := Tryz.isAgg133
 z213 := Tryz.sizeOf133
 t232 := Tryz.underlying145
 a232 := Tryz.isAgg145
 z232 := Tryz.sizeOf145
 v232 := Tryz.zeroValue145
 t233 := Tryz.underlying146
 a233 := Tryz.isAgg146
 z233 := Tryz.sizeOf146
 v233 := Tryz.zeroValue146
 g15 := by kernel_rfl
 g16 := by kernel_rfl
 g17 := by kernel_rfl
 g18 := by kernel_rfl
 g19 := by kernel_rfl
 t80 := Tryz.underlying95
 a80 := Tryz.isAgg95
 z80 := Tryz.sizeOf95
 v80 := Tryz.zeroValue95
 i0 := by kernel_rfl
 i2 := by kernel_rfl
 i3 := by kernel_rfl
 i4 := by kernel_rfl
 i5 := by kernel_rfl
 i9 := by kernel_rfl
 i20 := by kernel_rfl
 i21 := by kernel_rfl
 i37 := by kernel_rfl
 i46 := by kernel_rfl
 i51 := by kernel_rfl
 i53 := by kernel_rfl
 i75 := by kernel_rfl
 i76 := by kernel_rfl
 i80 := by kernel_rfl
 i85 := by kernel_rfl
 i127 := by kernel_rfl
 i143 := by kernel_rfl
 i145 := by kernel_rfl
 i167 := by kernel_rfl
 i168 := by kernel_rfl
 i171 := by kernel_rfl
 i173 := by kernel_rfl
 i175 := by kernel_rfl
 i210 := by kernel_rfl
 i212 := by kernel_rfl
 i232 := by kernel_rfl
 i233 := by kernel_rfl
 m15 := by kernel_rfl
 m16 := by kernel_rfl
 m17 := by kernel_rfl
 m18 := by kernel_rfl
 m19 := by kernel_rfl
 c0 := by kernel_rfl
 c2 := by kernel_rfl
 c3 := by kernel_rfl
 c4 := by kernel_rfl
 c5 := by kernel_rfl
 c9 := by kernel_rfl
 c20 := by kernel_rfl
 c21 := by kernel_rfl
 c37 := by kernel_rfl
 c46 := by kernel_rfl
 c51 := by kernel_rfl
 c53 := by kernel_rfl
 c75 := by kernel_rfl
 c76 := by kernel_rfl
 c80 := by kernel_rfl
 c85 := by kernel_rfl
 c127 := by kernel_rfl
 c143 := by kernel_rfl
 c145 := by kernel_rfl
 c167 := by kernel_rfl
 c168 := by kernel_rfl
 c171 := by kernel_rfl
 c173 := by kernel_rfl
 c175 := by kernel_rfl
 c210 := by kernel_rfl
 c212 := by kernel_rfl
 c213 := by kernel_rfl
 c232 := by kernel_rfl
 c233 := by kernel_rfl }
open Go.RowKit in
/-- strconv.Atoi, AT EVERY STRING THAT SPELLS AN int ('Lib.atoiAll .. = .ok v'; of whatever length: leading zeros count): v, AND NO ERROR. The world: as it was, or with the one new row that '[]byte(..)' lays. (LAID: no walk: one application.) -/
theorem Tryz.strconv_Atoi_ok (s : ByteArray) (hmax : s.size ≤ 9223372036854775806) (v : Int) (h : Lib.atoiAll s.data.toList = .ok v) (w : World) :
 Calls Tryz.prog 76 #[.string s] w fun e w' => e = .returned (.tuple #[.int .i64 v, .nilIface]) ∧ (w' = w ∨ ∃ t, w' = Lib.bytesWorld w 5 t) := Any.strconv_Atoi_ok Tryz.laysC172 s hmax v h w
open Go.RowKit in
theorem Tryz.strconv_Atoi_syntax_var (s : ByteArray) (hlim : s.size ≤ 281474976710656) (h : Lib.atoiAll s.data.toList = .«syntax») (tp : TypeId) (p : Value) (w : World) (hvar : w.var? Tryz.prog "strconv.ErrSyntax" = some #[.iface tp p]) :
 Calls Tryz.prog 76 #[.string s] w fun e w' => ∃ N, e = .returned (.tuple #[.int .i64 0, .iface 114 (.pointer (some ⟨N, 0, none⟩))]) ∧ w.heap.size ≤ N ∧ w'.heap[N]? = some (.cells #[.string ⟨#[65, 116, 111, 105]⟩, .string s, .iface tp p] 129 (0, 0)) ∧ Below w.heap.size w w' := Any.strconv_Atoi_syntax_var Tryz.laysC172 s hlim h tp p w hvar
open Go.RowKit in
theorem Tryz.strconv_Atoi_range_var (s : ByteArray) (hlim : s.size ≤ 281474976710656) (h : Lib.atoiAll s.data.toList = .range) (tp : TypeId) (p : Value) (w : World) (hvar : w.var? Tryz.prog "strconv.ErrRange" = some #[.iface tp p]) :
 Calls Tryz.prog 76 #[.string s] w fun e w' => ∃ N, e = .returned (.tuple #[.int .i64 (Lib.atoiSat s.data.toList), .iface 114 (.pointer (some ⟨N, 0, none⟩))]) ∧ w.heap.size ≤ N ∧ w'.heap[N]? = some (.cells #[.string ⟨#[65, 116, 111, 105]⟩, .string s, .iface tp p] 129 (0, 0)) ∧ Below w.heap.size w w' := Any.strconv_Atoi_range_var Tryz.laysC172 s hlim h tp p w hvar
def Tryz.lays145_ren : Go.Shelf.Ren := ⟨fun | 145 => 58 | 220 => 75 | 219 => 88 | 217 => 97 | 225 => 98 | 224 => 99 | 267 => 100 | 266 => 111 | 314 => 112 | n => n, fun | 9 => 9 | 4 => 4 | 59 => 80 | 3 => 3 | 5 => 5 | 46 => 103 | 146 => 123 | 51 => 122 | n => n, fun | 1 => 0 | n => n⟩
theorem Tryz.lays145 : Go.Proofs.Lays.n145 Tryz.prog Tryz.lays145_ren := {
 mixed := by kernel_rfl
 f145 := Tryz.func58.trans (congrArg some (by kernel_rfl))
 f217 := Tryz.func97.trans (congrArg some (by kernel_rfl))
 f219 := Tryz.func88.trans (congrArg some (by kernel_rfl))
 f220 := Tryz.func75.trans (congrArg some (by kernel_rfl))
 f224 := Tryz.func99.trans (congrArg some (by kernel_rfl))
 f225 := Tryz.func98.trans (congrArg some (by kernel_rfl))
 f266 := Tryz.func111.trans (congrArg some (by kernel_rfl))
 f267 := Tryz.func100.trans (congrArg some (by kernel_rfl))
 f314 := Tryz.func112.trans (congrArg some (by kernel_rfl))
 t3 := Tryz.underlying3
 a3 := Tryz.isAgg3
 z3 := Tryz.sizeOf3
 v3 := Tryz.zeroValue3
 t4 := Tryz.underlying4
 a4 := Tryz.isAgg4
 z4 := Tryz.sizeOf4
 v4 := Tryz.zeroValue4
 t5 := Tryz.underlying5
 a5 := Tryz.isAgg5
 z5 := Tryz.sizeOf5
 v5 := Tryz.zeroValue5
 t9 := Tryz.underlying9
 a9 := Tryz.isAgg9
 z9 := Tryz.sizeOf9
 v9 := Tryz.zeroValue9
 t46 := Tryz.underlying103
 a46 := Tryz.isAgg103
 z46 := Tryz.sizeOf103
 v46 := Tryz.zeroValue103
 t51 := Tryz.underlying122
 a51 := Tryz.isAgg122
 z51 := Tryz.sizeOf122
 v51 := Tryz.zeroValue122
 t59 := Tryz.underlying80
 a59 := Tryz.isAgg80
 z59 := Tryz.sizeOf80
 v59 := Tryz.zeroValue80
 t146 := Tryz.underlying123
 a146 := Tryz.isAgg123
 z146 := Tryz.sizeOf123
 v146 := Tryz.zeroValue123
 g1 := by kernel_rfl }
open Go.RowKit Go.Lib in
/-- strings.Cut: "Cut slices s around the first instance of sep, returning the text before and after sep. The found result reports whether sep appears in s. If sep does not appear in s, cut returns s, "", false.": IT RETURNS 'Lib.cut s sep'; the world is as it was but for the count of draws. (LAID: no walk: one application.) -/
theorem Tryz.strings_Cut (s sep : ByteArray) (m : Int) (w : World) (hs : s.size < 4294967281) (hm : w.cell? ⟨0, 0, none⟩ = some (.int .i64 m)) :
 Calls Tryz.prog 58 #[.string s, .string sep] w fun e w' => e = .returned (.tuple #[.string ⟨(Lib.cut s.data.toList sep.data.toList).1.toArray⟩, .string ⟨(Lib.cut s.data.toList sep.data.toList).2.1.toArray⟩, .bool (Lib.cut s.data.toList sep.data.toList).2.2]) ∧ ∃ n, w' = w.drewN n := Any.strings_Cut Tryz.lays145 s sep m w hs hm
def Tryz.lays146_ren : Go.Shelf.Ren := ⟨fun | 146 => 57 | 221 => 74 | 268 => 85 | 138 => 86 | 143 => 87 | 195 => 94 | 197 => 95 | 218 => 96 | 219 => 88 | 260 => 110 | 217 => 97 | 225 => 98 | 224 => 99 | 267 => 100 | 266 => 111 | 314 => 112 | n => n, fun | 9 => 9 | 31 => 73 | 3 => 3 | 4 => 4 | 0 => 0 | 105 => 108 | 21 => 21 | 5 => 5 | 46 => 103 | 119 => 135 | 139 => 138 | 138 => 137 | 146 => 123 | 51 => 122 | n => n, fun | 1 => 0 | 3 => 4 | 4 => 5 | n => n⟩
theorem Tryz.lays146 : Go.Proofs.Lays.n146 Tryz.prog Tryz.lays146_ren := {
 mixed := by kernel_rfl
 f138 := Tryz.func86.trans (congrArg some (by kernel_rfl))
 f143 := Tryz.func87.trans (congrArg some (by kernel_rfl))
 f146 := Tryz.func57.trans (congrArg some (by kernel_rfl))
 f195 := Tryz.func94.trans (congrArg some (by kernel_rfl))
 f197 := Tryz.func95.trans (congrArg some (by kernel_rfl))
 f217 := Tryz.func97.trans (congrArg some (by kernel_rfl))
 f218 := Tryz.func96.trans (congrArg some (by kernel_rfl))
 f219 := Tryz.func88.trans (congrArg some (by kernel_rfl))
 f221 := Tryz.func74.trans (congrArg some (by kernel_rfl))
 f224 := Tryz.func99.trans (congrArg some (by kernel_rfl))
 f225 := Tryz.func98.trans (congrArg some (by kernel_rfl))
 f260 := Tryz.func110.trans (congrArg some (by kernel_rfl))
 f266 := Tryz.func111.trans (congrArg some (by kernel_rfl))
 f267 := Tryz.func100.trans (congrArg some (by kernel_rfl))
 f268 := Tryz.func85.trans (congrArg some (by kernel_rfl))
 f314 := Tryz.func112.trans (congrArg some (by kernel_rfl))
 t0 := Tryz.underlying0
 a0 := Tryz.isAgg0
 z0 := Tryz.sizeOf0
 v0 := Tryz.zeroValue0
 t3 := Tryz.underlying3
 a3 := Tryz.isAgg3
 z3 := Tryz.sizeOf3
 v3 := Tryz.zeroValue3
 t4 := Tryz.underlying4
 a4 := Tryz.isAgg4
 z4 := Tryz.sizeOf4
 v4 := Tryz.zeroValue4
 t5 := Tryz.underlying5
 a5 := Tryz.isAgg5
 z5 := Tryz.sizeOf5
 v5 := Tryz.zeroValue5
 t9 := Tryz.underlying9
 a9 := Tryz.isAgg9
 z9 := Tryz.sizeOf9
 v9 := Tryz.zeroValue9
 t21 := Tryz.underlying21
 a21 := Tryz.isAgg21
 z21 := Tryz.sizeOf21
 v21 := Tryz.zeroValue21
 t31 := Tryz.underlying73
 a31 := Tryz.isAgg73
 z31 := Tryz.sizeOf73
 v31 := Tryz.zeroValue73
 t46 := Tryz.underlying103
 a46 := Tryz.isAgg103
 z46 := Tryz.sizeOf103
 v46 := Tryz.zeroValue103
 t51 := Tryz.underlying122
 a51 := Tryz.isAgg122
 z51 := Tryz.sizeOf122
 v51 := Tryz.zeroValue122
 t105 := Tryz.underlying108
 a105 := Tryz.isAgg108
 z105 := Tryz.sizeOf108
 v105 := Tryz.zeroValue108
 t119 := Tryz.underlying135
 a119 := Tryz.isAgg135
 z119 := Tryz.sizeOf135
 t138 := Tryz.underlying137
 a138 := Tryz.isAgg137
 z138 := Tryz.sizeOf137
 v138 := Tryz.zeroValue137
 t139 := Tryz.underlying138
 a139 := Tryz.isAgg138
 z139 := Tryz.sizeOf138
 v139 := Tryz.zeroValue138
 t146 := Tryz.underlying123
 a146 := Tryz.isAgg123
 z146 := Tryz.sizeOf123
 v146 := Tryz.zeroValue123
 g1 := by kernel_rfl
 g3 := by kernel_rfl
 g4 := by kernel_rfl }
open Go.RowKit Go.Lib in
/-- strings.Split. (LAID: no walk: one application.) -/
theorem Tryz.strings_Split (s sep : ByteArray) (m : Int) (w : World) (hs : s.size < 4294967281) (hm : w.cell? ⟨0, 0, none⟩ = some (.int .i64 m)) (h1 : 1 ≤ sep.size) :
 Calls Tryz.prog 57 #[.string s, .string sep] w fun e w' =>
  e = .returned (.slice (some ⟨w.heap.size, 0, none⟩) (Lib.countB s sep + 1) (Lib.countB s sep + 1)) ∧ w' = w.alloc (.cells ((Lib.splitB sep 0 (Lib.countB s sep) s).map Value.string).toArray 9) := Any.strings_Split Tryz.lays146 (by kernel_rfl) s sep m w hs hm h1
end Go.Proofs

namespace Go.Proofs.YtknjpbkkbnmfaaaGreatDoor.P
open Go.RowKit Go.Proofs.YtknjpbkkbnmfaaaGreatDoorW.PrintWords Go.Proofs.YtknjpbkkbnmfaaaGreatDoorW.PrintLast Go.Proofs.YtknjpbkkbnmfaaaGreatDoorW.PrintMore
attribute [local go_sem] max2_int min2_int max_two min_two max_three min_three max_four min_four   -- for this text's walks alone
set_option linter.unusedVariables false
set_option linter.unusedSimpArgs false



def errW : Option Int → Value
 | none => .nilIface
 | some c => .iface 111 (.int .i64 c)
theorem errW_none : errW none = .nilIface := rfl
theorem errW_some (c : Int) : errW (some c) = .iface 111 (.int .i64 c) := rfl

theorem info3 : (Tryz.prog.info? 3).map (fun i => (i.zero, i.size, i.bytes)) = some (some (.int .i64 0), 1, 8) := by kernel_rfl
theorem info9 : (Tryz.prog.info? 9).map (fun i => (i.zero, i.size, i.bytes)) = some (some (.string ⟨#[]⟩), 1, 16) := by kernel_rfl
theorem info27 : (Tryz.prog.info? 27).map (fun i => (i.zero, i.size, i.bytes)) = some (some (.slice none 0 0), 1, 24) := by kernel_rfl
theorem info39 : (Tryz.prog.info? 39).map (fun i => (i.zero, i.size, i.bytes)) = some (some (.agg #[(.int .i64 0), (.int .i64 0)]), 2, 16) := by kernel_rfl
-- the values' own types
/-! #### struct type 39 -/
structure S39 where
 f0 : Int
 f1 : Int
def z39 : S39 := ⟨(0 : Int), (0 : Int)⟩
def k39 : Kd S39 := Kd.iso (Kd.pair (Kd.int .i64) (Kd.int .i64)) (fun x : S39 => (x.f0, x.f1))
theorem k39_open {w : World} {x : S39} {cs : List Value} (h : k39.K w x cs) : cs = [.int .i64 x.f0, .int .i64 x.f1] := by
 obtain ⟨_, _, rfl, rfl, rfl⟩ := h
 exact rfl
theorem k39_openM {w : World} {base : Nat} {ok : Nat → Prop} {x : S39} {cs : List Value} (h : k39.M w base ok x cs) : cs = [.int .i64 x.f0, .int .i64 x.f1] := by
 obtain ⟨_, _, rfl, rfl, rfl⟩ := h
 exact rfl
theorem k39_mkM (w : World) (base : Nat) (ok : Nat → Prop) (x : S39)  : k39.M w base ok x [.int .i64 x.f0, .int .i64 x.f1] := ⟨[.int .i64 x.f0], [.int .i64 x.f1], rfl, rfl, rfl⟩
def rd_T39 (xs : List S39) (i : Int) : S39 := xs.getD i.toNat z39
theorem at_T39 {w : World} {A : Option Addr} {n : Nat} {xs : List S39} (h : Kd.C k39 w A n xs) (i : Int) (h0 : 0 ≤ i) (h1 : i < n) : ∃ ad , A = some ad ∧ w.cell? (ad.add (i.toNat * 2)) = some (.int .i64 (rd_T39 xs i).f0) ∧ w.cell? ⟨(ad.add (i.toNat * 2)).block, (ad.add (i.toNat * 2)).off + 1, none⟩ = some (.int .i64 (rd_T39 xs i).f1) := by
 obtain ⟨ad, c, e, _, hK, hc0⟩ := Kd.C_get h z39 i h0 h1
 have hc : ∀ j u, c[j]? = some u → w.cell? (ad.add (i.toNat * 2 + j)) = some u := hc0
 obtain rfl := k39_open hK
 exact ⟨ad, e, hc 0 _ rfl, by rw [← add_field _ _ 1 zU0_3]; exact hc 1 _ rfl⟩

def rd_L3 (xs : List (List Int)) (i : Int) : (List Int) := xs.getD i.toNat ([] : List Int)
theorem at_L3 {w : World} {A : Option Addr} {n : Nat} {xs : List (List Int)} (h : Kd.C (Kd.slice 3 (Kd.int .i64)) w A n xs) (i : Int) (h0 : 0 ≤ i) (h1 : i < n) : ∃ ad A0 c0, A = some ad ∧ w.cell? (ad.add i.toNat) = some (.slice A0 (rd_L3 xs i).length c0) ∧ (rd_L3 xs i).length ≤ c0 ∧ (Kd.int .i64).C w A0 (rd_L3 xs i).length (rd_L3 xs i) := by
 obtain ⟨ad, c, e, _, hK, hc0⟩ := Kd.C_get h ([] : List Int) i h0 h1
 have hc : ∀ j u, c[j]? = some u → w.cell? (ad.add (i.toNat * 1 + j)) = some u := hc0
 obtain ⟨A0, c0, rfl, l0, g0⟩ := hK
 exact ⟨ad, A0, c0, e, by have hq := hc 0 _ rfl; rwa [Nat.mul_one, Nat.add_zero] at hq, l0, g0⟩


/-! ### zwords: function 0 -/
theorem zb {w w1 w2 : World} {g : Nat} {o : Obj} (h : Aside0 (w.heap[g]? = some o)) (hb : Below w1.heap.size w1 w2) (hp : w.heap[g]? = some o → w1.heap[g]? = some o := by intro h_; (with_reducible repeat (first | refine blk_drewN ?_ _ | refine blk_drew ?_ | refine blk_alloc ?_ _ | refine blk_far ?_ (Aside0.out zU0_2) _)); exact h_) : Aside0 (w2.heap[g]? = some o) := ⟨blk_below (hp h.out) hb⟩
theorem zk {w w1 : World} {g : Nat} {o : Obj} (h : Aside0 (w.heap[g]? = some o)) (hp : w.heap[g]? = some o → w1.heap[g]? = some o := by intro h_; (with_reducible repeat (first | refine blk_drewN ?_ _ | refine blk_drew ?_ | refine blk_alloc ?_ _ | refine blk_far ?_ (Aside0.out zU0_2) _)); exact h_) : Aside0 (w1.heap[g]? = some o) := ⟨hp h.out⟩
theorem zq {w w1 : World} {g : Nat} {o : Obj} (h : Aside0 (w.heap[g]? = some o)) (hp : w.heap[g]? = some o → w1.heap[g]? = some o := by intro h_; (with_reducible repeat (first | refine blk_drewN ?_ _ | refine blk_drew ?_ | refine blk_alloc ?_ _ | refine blk_far ?_ (Aside0.out zU0_2) _)); exact h_) : w1.heap[g]? = some o := hp h.out
theorem zl {w w1 : World} {g g2 : Nat} {o : Obj} (h : Aside0 (w.heap[g]? = some o)) (hg : g2 = w1.heap.size) (hp : w.heap[g]? = some o → w1.heap[g]? = some o := by intro h_; (with_reducible repeat (first | refine blk_drewN ?_ _ | refine blk_drew ?_ | refine blk_alloc ?_ _ | refine blk_far ?_ (Aside0.out zU0_2) _)); exact h_) : Aside0 (g ≠ g2) := ⟨by rw [hg]; exact Nat.ne_of_lt (blk_lt (hp h.out))⟩
theorem zr {w w1 : World} {g g2 : Nat} {o : Obj} (h : Aside0 (w.heap[g]? = some o)) (hg : g2 = w1.heap.size) (hp : w.heap[g]? = some o → w1.heap[g]? = some o := by intro h_; (with_reducible repeat (first | refine blk_drewN ?_ _ | refine blk_drew ?_ | refine blk_alloc ?_ _ | refine blk_far ?_ (Aside0.out zU0_2) _)); exact h_) : Aside0 (g2 ≠ g) := ⟨by rw [hg]; exact Nat.ne_of_gt (blk_lt (hp h.out))⟩
theorem zh {b w w1 w2 : World} (h : Aside0 (Below b.heap.size b w)) (hb : Below w1.heap.size w1 w2) (hp : Below b.heap.size b w → Below b.heap.size b w1 := by intro h_; repeat (first | (with_reducible first | exact h_ | apply below_alloc | apply pw_below_drewN | apply below_drew1 | refine below_set ?_ (Aside0.out zU0_2)) | exact h_)) : Aside0 (Below b.heap.size b w2) := ⟨below_step (hp h.out) hb⟩
theorem zg {b w w1 : World} {g : Nat} (h : Aside0 (Below b.heap.size b w)) (hg : g = w1.heap.size) (hp : Below b.heap.size b w → Below b.heap.size b w1 := by intro h_; repeat (first | (with_reducible first | exact h_ | apply below_alloc | apply pw_below_drewN | apply below_drew1 | refine below_set ?_ (Aside0.out zU0_2)) | exact h_)) : Aside0 (b.heap.size ≤ g) := ⟨by rw [hg]; exact below_size (hp h.out)⟩
theorem zo {α : Type} {d : Kd α} {e : Nat} {w w1 w2 : World} {b : Nat} {ok : Nat → Prop} {v : Value} {xs : List α} (h : Aside0 (d.R e w b ok v xs)) (hb : Below w1.heap.size w1 w2) (hp : d.R e w b ok v xs → d.R e w1 b ok v xs := by intro h_; (with_reducible repeat (first | apply Kd.R_alloc | apply Kd.R_drewN | apply Kd.R_drew)); exact h_) : Aside0 (d.R e w2 b ok v xs) := ⟨Kd.R_below (hp h.out) hb⟩
theorem zp {α : Type} {d : Kd α} {e : Nat} {w w1 : World} {b : Nat} {ok : Nat → Prop} {v : Value} {xs : List α} (h : Aside0 (d.R e w b ok v xs)) (hp : d.R e w b ok v xs → d.R e w1 b ok v xs := by intro h_; (with_reducible repeat (first | apply Kd.R_alloc | apply Kd.R_drewN | apply Kd.R_drew)); exact h_) : Aside0 (d.R e w1 b ok v xs) := ⟨hp h.out⟩
theorem zs {α : Type} {d : Kd α} {e : Nat} {w w1 : World} {b : Nat} {ok : Nat → Prop} {v : Value} {xs : List α} (h : Aside0 (d.R e w b ok v xs)) (hp : d.R e w b ok v xs → d.R e w1 b ok v xs := by intro h_; (with_reducible repeat (first | apply Kd.R_alloc | apply Kd.R_drewN | apply Kd.R_drew)); exact h_) : d.R e w1 b ok v xs := hp h.out
theorem zy {b w w1 : World} (h : Aside0 (Below b.heap.size b w)) (hp : Below b.heap.size b w → Below b.heap.size b w1 := by intro h_; repeat (first | (with_reducible first | exact h_ | apply below_alloc | apply pw_below_drewN | apply below_drew1 | refine below_set ?_ (Aside0.out zU0_2)) | exact h_)) : Below b.heap.size b w1 := hp h.out
theorem zt {p : Prop} (h : p := by first | rfl | (simp [errW_none, errW_some] <;> rfl) | (simp [*, errW_none, errW_some] <;> rfl)) : p := h
theorem zu {p : Prop} (h : p := by first | rfl | (simp; done) | (simp [*]; done)) : p := h
theorem zc2 {w : World} {g : Nat} {t : TypeId} {a0 a1 : Value} (h : Aside0 (w.heap[g]? = some (.cells #[a0, a1] t (0, 0)))) : w.cell? ⟨g, 0, none⟩ = some a0 ∧ w.cell? ⟨g, 1, none⟩ = some a1 ∧ w.frozen? ⟨g, 0, none⟩ = false ∧ w.frozen? ⟨g, 1, none⟩ = false := ⟨(blk_cell h.out 0).trans rfl, (blk_cell h.out 1).trans rfl, blk_frozen h.out 0, blk_frozen h.out 1⟩
theorem zE {P : Program} {ops : Array Oper} {rest : List Oper} {o : Oper} {a : Act} {Q : Exit → Act → World → Prop} {W : World} (N : Tmp) (cs : Array Value) (t : TypeId) (h : ∀ g, g = W.heap.size → ∀ w1, w1.heap[g]? = some (.cells cs t (0, 0)) → Below W.heap.size W w1 → wpList P ops Q rest (a.put o.dst (.pointer (some ⟨g, 0, none⟩))) w1) (hd : o.dst = some N := by rfl) (hgd : o.guard = none := by rfl) (hrun : (execOp a.eval o).run P W = .ok (.value (.pointer (some ⟨W.heap.size, 0, none⟩))) (W.alloc (.cells cs t (0, 0))) := by first | (go_simp; done) | (go_simp; rfl)) : wpList P ops Q (o :: rest) a W := box_event hgd hd hrun h
theorem zG {P : Program} {ops : Array Oper} {Q : Exit → Act → World → Prop} {rest : List Oper} {oi : Oper} {a : Act} {w : World} (N : Option Tmp) {f : FuncId} {fn : Func} {ao : Array Operand} {ts : Array TypeId} (hf : P.funcs[f]? = some fn) (args : Array Value) (h : Calls P f args w fun e w' => ∃ v, e = .returned v ∧ wpList P ops Q rest (a.put N v) w') (hd : oi.dst = N := by rfl) (hg : oi.guard = none := by rfl) (hname : (fn.name == "runtime.NumGoroutine") = false := by first | decide +kernel | kernel_rfl) (hb : fn.body.isSome = true := by rfl) (hop : oi.op = .call { callee := .value (.func f), args := ao, argTypes := ts } := by rfl) (hargs : ao.map a.eval = args := by ((try simp only [List.map_toArray, List.map_cons, List.map_nil]); first | done | rfl | (simp only [List.length_drop, List.length_take]; rfl))) : wpList P ops Q (oi :: rest) a w := goesL_ N hd hg hf hname hb args hop hargs h
theorem zw_set {w : World} {g : Nat} {t : TypeId} {cs : Array Value} {i : Nat} {u : Value} (zw_1 : w.heap[g]? = some (.cells cs t (0, 0))) : (w.setCell ⟨g, i, none⟩ u).heap[g]? = some (.cells (cs.setIfInBounds i u) t (0, 0)) := blk_set zw_1 i u
theorem zw_far {w : World} {g : Nat} {t : TypeId} {cs : Array Value} {p : Addr} {u : Value} (zw_2 : w.heap[g]? = some (.cells cs t (0, 0))) (zw_3 : Aside0 (g ≠ p.block)) : (w.setCell p u).heap[g]? = some (.cells cs t (0, 0)) := blk_far zw_2 zw_3.out u
theorem zw {w w1 : World} {g : Nat} {t : TypeId} {cs cs1 cs2 : Array Value} (h : Aside0 (w.heap[g]? = some (.cells cs t (0, 0)))) (hp : w.heap[g]? = some (.cells cs t (0, 0)) → w1.heap[g]? = some (.cells cs1 t (0, 0)) := by (intro h_; (with_reducible repeat (first | refine blk_drewN ?_ _ | refine blk_drew ?_ | refine blk_alloc ?_ _ | apply zw_set | (apply zw_far; rotate_left; assumption))); exact h_)) (he : cs1 = cs2 := by rfl) : w1.heap[g]? = some (.cells cs2 t (0, 0)) := he ▸ hp h.out
theorem zKe {w w1 w2 : World} {g : Nat} {row : Option Nat} (h : Aside0 (KeepBut w w1 g row)) (hp : KeepBut w w1 g row → KeepBut w w2 g row := by (intro h_; repeat (first | (with_reducible first | exact h_ | apply KeepBut.set_ | apply keep_drewN | apply keep_drew | apply keep_alloc | refine keep_far ?_ (Aside0.out zU0_2) _) | exact h_))) : KeepBut w w2 g row := hp h.out
theorem zKb {w w1 w2 w3 : World} {g : Nat} {row : Option Nat} (h : Aside0 (KeepBut w w1 g row)) (hb : Below w2.heap.size w2 w3) (hp : KeepBut w w1 g row → KeepBut w w2 g row := by (intro h_; repeat (first | (with_reducible first | exact h_ | apply KeepBut.set_ | apply keep_drewN | apply keep_drew | apply keep_alloc | refine keep_far ?_ (Aside0.out zU0_2) _) | exact h_))) : Aside0 (KeepBut w w3 g row) := ⟨KeepBut.trans (hp h.out) (KeepBut.of_below hb g row) (.inl rfl)⟩
theorem zKt {w w1 w2 w3 : World} {g : Nat} {row : Option Nat} (h : Aside0 (KeepBut w w1 g row)) (hk : KeepBut w2 w3 g row) (hp : KeepBut w w1 g row → KeepBut w w2 g row := by (intro h_; repeat (first | (with_reducible first | exact h_ | apply KeepBut.set_ | apply keep_drewN | apply keep_drew | apply keep_alloc | refine keep_far ?_ (Aside0.out zU0_2) _) | exact h_))) : Aside0 (KeepBut w w3 g row) := ⟨KeepBut.trans (hp h.out) hk (.inl rfl)⟩
theorem zKg {w w1 w2 : World} {g g2 : Nat} {row : Option Nat} (h : Aside0 (KeepBut w w1 g row)) (hg : g2 = w2.heap.size) (hp : KeepBut w w1 g row → KeepBut w w2 g row := by (intro h_; repeat (first | (with_reducible first | exact h_ | apply KeepBut.set_ | apply keep_drewN | apply keep_drew | apply keep_alloc | refine keep_far ?_ (Aside0.out zU0_2) _) | exact h_))) : Aside0 (w.heap.size ≤ g2) := ⟨by rw [hg]; exact keep_size (hp h.out)⟩
theorem zKB {w w1 w2 : World} {g g' : Nat} {row : Option Nat} {o : Obj} (h : Aside0 (w.heap[g']? = some o)) (hk : KeepBut w1 w2 g row) (hne : Aside0 (g' ≠ g) := by assumption) (hr : some g' ≠ row := by simp) (hp : w.heap[g']? = some o → w1.heap[g']? = some o := by intro h_; (with_reducible repeat (first | refine blk_drewN ?_ _ | refine blk_drew ?_ | refine blk_alloc ?_ _ | refine blk_far ?_ (Aside0.out zU0_2) _)); exact h_) : Aside0 (w2.heap[g']? = some o) := ⟨KeepBut.blk hk (hp h.out) hne.out hr⟩
theorem zset2 (w : World) (a : Addr) (u v : Value) : (w.setCell a u).setCell a v = w.setCell a v := by
 unfold World.setCell
 simp only [World.mk.injEq, and_true]
 apply Array.ext_getElem?
 intro i
 rw [Array.getElem?_modify, Array.getElem?_modify, Array.getElem?_modify]
 by_cases h : a.block = i
 ·simp only [h, if_true, Option.map_map]
  cases w.heap[i]? with
  | none => rfl
  | some o =>
   simp only [Option.map_some, Function.comp]
   cases o with
   | cells c e f => simp only []; split <;> simp
   | _ => rfl
 ·simp only [h, if_false]
theorem zcellD (w : World) (n : Nat) (a : Addr) : (w.drewN n).cell? a = w.cell? a := by cases n <;> rfl
theorem zfrozenD (w : World) (n : Nat) (a : Addr) : (w.drewN n).frozen? a = w.frozen? a := by cases n <;> rfl
theorem zB {α β : Type} {o : Option α} {f : α → Option β} {r : β} (h : o.bind f = some r) : ∃ t, Aside0 (o = some t) ∧ f t = some r := by
 obtain ⟨t, h1, h2⟩ := Option.bind_eq_some_iff.mp h
 exact ⟨t, ⟨h1⟩, h2⟩
theorem zC {α : Type} {d : Kd α} {b w w1 : World} {A : Option Addr} {n : Nat} {xs : List α} (h : Aside0 (d.C b A n xs)) (hb : Aside0 (Below b.heap.size b w)) (hp : d.C b A n xs → Below b.heap.size b w → d.C w1 A n xs := by (intro h_ hb_; repeat (first | exact (Kd.C_below h_ hb_) | (with_reducible refine Kd.C_alloc ?_ _) | (with_reducible refine Kd.C_drewN ?_ _) | (with_reducible refine Kd.C_drew ?_)))) : d.C w1 A n xs := hp h.out hb.out
theorem zq0 {w : World} {g : Nat} {t : TypeId} {cs : Array Value} (h : Aside0 (w.heap[g]? = some (.cells cs t (0, 0)))) (i : Nat) {v : Value} (hv : cs[i]? = some v := by rfl) : w.cell? ⟨g, i, none⟩ = some v := (blk_cell h.out i).trans hv
theorem zrp {α : Type} {d : Kd α} {e : Nat} {w w1 : World} {b : Nat} {ok : Nat → Prop} {v : Value} {xs : List α} (h : d.R e w b ok v xs) (hp : d.R e w b ok v xs → d.R e w1 b ok v xs := by (intro h_; (with_reducible repeat (first | apply Kd.R_alloc | apply Kd.R_drewN | apply Kd.R_drew)); exact h_)) : d.R e w1 b ok v xs := hp h


/-! ### zregs: function 0 -/
theorem zA {P : Program} {ops : Array Oper} {Q : Exit → Act → World → Prop} {md : Region.Mode} {S : World → Prop} {ds : List Nat} {T : Bool × List (List Nat × List Nat)} (i : Nat) (N : Nat) {oi : Oper} {v : Value} {fuel : Nat} {l l' : Array Bool} {a a' : Act} {w : World} (hT : Aside0 (rtab md ops = T)) (h : wpAnyLast P md ops Q S ds fuel l' a' w) (hi : ops[i]? = some oi := by rfl) (hN : oi.dst = some N := by rfl) (hl : l.setIfInBounds i true = l' := by (simp only [List.setIfInBounds_toArray, List.set_cons_zero, List.set_cons_succ]; rfl)) (hc : anyT T l.toList l'.toList i = true := by first | decide +kernel | kernel_rfl) (hQ : ∀ c a w, Q (.panic c) (a.put oi.dst v) w → Q (.panic c) a w := by exact fun _ _ _ h => h) (hw : Region.wanted oi (yielded ops a.tmps) = true := by rfl) (hy : ∀ w, (execOp a.eval oi).run P w = .ok (.value v) w := by (intro w'; go_simp; with_reducible rfl)) (ha : a.put (some N) v = a' := by (simp only [Act.put, List.setIfInBounds_toArray, List.set_cons_zero, List.set_cons_succ, i64_w, i32_w]; rfl)) : wpAnyLast P md ops Q S ds (fuel + 1) l a w := pure_ l' hi hN (any_of hT.out hc) hQ (Or.inl ⟨hw, hy⟩) ha h
theorem zA0 {P : Program} {ops : Array Oper} {Q : Exit → Act → World → Prop} {md : Region.Mode} {S : World → Prop} {ds : List Nat} (i : Nat) (N : Nat) {oi : Oper} {v : Value} {fuel : Nat} {l l' : Array Bool} {a a' : Act} {w : World} (h : wpAnyLast P md ops Q S ds fuel l' a' w) (hi : ops[i]? = some oi := by rfl) (hN : oi.dst = some N := by rfl) (hl : l.setIfInBounds i true = l' := by (simp only [List.setIfInBounds_toArray, List.set_cons_zero, List.set_cons_succ]; rfl)) (hc : anyB md ops l l' i = true := by first | decide +kernel | kernel_rfl) (hQ : ∀ c a w, Q (.panic c) (a.put oi.dst v) w → Q (.panic c) a w := by exact fun _ _ _ h => h) (hw : Region.wanted oi (yielded ops a.tmps) = true := by rfl) (hy : ∀ w, (execOp a.eval oi).run P w = .ok (.value v) w := by (intro w'; go_simp; with_reducible rfl)) (ha : a.put (some N) v = a' := by (simp only [Act.put, List.setIfInBounds_toArray, List.set_cons_zero, List.set_cons_succ, i64_w, i32_w]; rfl)) : wpAnyLast P md ops Q S ds (fuel + 1) l a w := pure_ l' hi hN hc hQ (Or.inl ⟨hw, hy⟩) ha h
theorem zAu {P : Program} {ops : Array Oper} {Q : Exit → Act → World → Prop} {md : Region.Mode} {S : World → Prop} {ds : List Nat} {T : Bool × List (List Nat × List Nat)} (i : Nat) (N : Nat) {oi : Oper} {fuel : Nat} {l l' : Array Bool} {a a' : Act} {w : World} (hT : Aside0 (rtab md ops = T)) (h : wpAnyLast P md ops Q S ds fuel l' a' w) (hi : ops[i]? = some oi := by rfl) (hN : oi.dst = some N := by rfl) (hl : l.setIfInBounds i true = l' := by (simp only [List.setIfInBounds_toArray, List.set_cons_zero, List.set_cons_succ]; rfl)) (hc : anyT T l.toList l'.toList i = true := by first | decide +kernel | kernel_rfl) (hQ : ∀ c a w, Q (.panic c) (a.put oi.dst undef) w → Q (.panic c) a w := by exact fun _ _ _ h => h) (hw : Region.wanted oi (yielded ops a.tmps) = false := by rfl) (ha : a.put (some N) undef = a' := by (simp only [Act.put, List.setIfInBounds_toArray, List.set_cons_zero, List.set_cons_succ, i64_w, i32_w]; rfl)) : wpAnyLast P md ops Q S ds (fuel + 1) l a w := pure_ (v := undef) l' hi hN (any_of hT.out hc) hQ (Or.inr ⟨hw, rfl⟩) ha h
theorem zT {P : Program} {ops : Array Oper} {Q : Exit → Act → World → Prop} {md : Region.Mode} {S : World → Prop} {ds : List Nat} {T : Bool × List (List Nat × List Nat)} {B : List Nat} (i : Nat) (N : Nat) {oi : Oper} {v : Value} {fuel : Nat} {l l' : Array Bool} {a a' : Act} {w : World} (hT : Aside0 (rtab md ops = T)) (hB : Aside0 (waitsOk T.2 B = true)) (hS : S w) (h : wpAnyLast P md ops Q S ds fuel l' a' w) (hi : ops[i]? = some oi := by rfl) (hN : oi.dst = some N := by rfl) (hl : l.setIfInBounds i true = l' := by (simp only [List.setIfInBounds_toArray, List.set_cons_zero, List.set_cons_succ]; rfl)) (hc : takeW T B ds l.toList l'.toList i = true := by first | decide +kernel | kernel_rfl) (hQ : ∀ c a w, Q (.panic c) (a.put oi.dst v) w → Q (.panic c) a w := by exact fun _ _ _ h => h) (hw : Region.wanted oi (yielded ops a.tmps) = true := by rfl) (hy : ∀ w, S w → (execOp a.eval oi).run P w = .ok (.value v) w := by (intro w' hs_; (repeat (have hs1_ := hs_.1; replace hs_ := hs_.2)); first | (go_simp; with_reducible rfl) | (simp only [Int.toNat_natCast] at *; go_simp; with_reducible rfl))) (ha : a.put (some N) v = a' := by (simp only [Act.put, List.setIfInBounds_toArray, List.set_cons_zero, List.set_cons_succ, i64_w, i32_w]; rfl)) : wpAnyLast P md ops Q S ds (fuel + 1) l a w := take_ l' hi hN (take_ofW hT.out hB.out hc) hQ (Or.inl ⟨hw, hy⟩) hS ha h
theorem zT0 {P : Program} {ops : Array Oper} {Q : Exit → Act → World → Prop} {md : Region.Mode} {S : World → Prop} {ds : List Nat} (i : Nat) (N : Nat) {oi : Oper} {v : Value} {fuel : Nat} {l l' : Array Bool} {a a' : Act} {w : World} (hS : S w) (h : wpAnyLast P md ops Q S ds fuel l' a' w) (hi : ops[i]? = some oi := by rfl) (hN : oi.dst = some N := by rfl) (hl : l.setIfInBounds i true = l' := by (simp only [List.setIfInBounds_toArray, List.set_cons_zero, List.set_cons_succ]; rfl)) (hc : takeB md ops ds l l' i = true := by first | decide +kernel | kernel_rfl) (hQ : ∀ c a w, Q (.panic c) (a.put oi.dst v) w → Q (.panic c) a w := by exact fun _ _ _ h => h) (hw : Region.wanted oi (yielded ops a.tmps) = true := by rfl) (hy : ∀ w, S w → (execOp a.eval oi).run P w = .ok (.value v) w := by (intro w' hs_; (repeat (have hs1_ := hs_.1; replace hs_ := hs_.2)); first | (go_simp; with_reducible rfl) | (simp only [Int.toNat_natCast] at *; go_simp; with_reducible rfl))) (ha : a.put (some N) v = a' := by (simp only [Act.put, List.setIfInBounds_toArray, List.set_cons_zero, List.set_cons_succ, i64_w, i32_w]; rfl)) : wpAnyLast P md ops Q S ds (fuel + 1) l a w := take_ l' hi hN hc hQ (Or.inl ⟨hw, hy⟩) hS ha h
theorem zO {P : Program} {ops : Array Oper} {Q : Exit → Act → World → Prop} {md : Region.Mode} {S : World → Prop} {ds : List Nat} {T : Bool × List (List Nat × List Nat)} (i : Nat) (N : Option Tmp) {oi : Oper} {fuel : Nat} {l l' : Array Bool} {a : Act} {w : World} (hT : Aside0 (rtab md ops = T)) (h : ∀ K : Act → World → Prop, Shut (∀ a' w', S w' → (S w' → wpAnyLast P md ops Q S ds fuel l' a' w') → K a' w') → if Region.wanted oi (yielded ops a.tmps) = true then Oper.wp P oi a w K Q else K (a.put N undef) w)
 (hi : ops[i]? = some oi := by rfl) (hN : oi.dst = N := by rfl) (hl : l.setIfInBounds i true = l' := by (simp only [List.setIfInBounds_toArray, List.set_cons_zero, List.set_cons_succ]; rfl)) (hc : (readyT T.2 l.toList == [i] && l.toList.set i true == l'.toList) = true := by first | decide +kernel | kernel_rfl) (hd : i ∉ ds := by decide) : wpAnyLast P md ops Q S ds (fuel + 1) l a w := one_ l' hi hN (one_of hT.out hc) hd h
theorem zN {P : Program} {ops : Array Oper} {Q : Exit → Act → World → Prop} {md : Region.Mode} {S : World → Prop} {ds : List Nat} (n : Nat) {fuel : Nat} {l : Array Bool} {a a' : Act} {w : World} {v : Value} (h : wpAnyLast P md ops Q S ds fuel l a' w) (ha : a.put (some n) v = a' := by (simp only [Act.put, List.setIfInBounds_toArray, List.set_cons_zero, List.set_cons_succ, i64_w, i32_w]; rfl)) : wpAnyLast P md ops Q S ds fuel l (a.put (some n) v) w := norm_ ha h



/-! ### laws_big: function 4 -/
def laws_big.f (l0 : List Int) (l1 : List Int) : Option (Bool) := if (l0.length : Int) > 1048576 then (some true) else (some (decide ((l1.length : Int) > (wrap64 (1048576 - (l0.length : Int))))))
theorem laws_big.calls (A0 : Option Addr) (c0 : Nat) (l0 : List Int) (A1 : Option Addr) (c1 : Nat) (l1 : List Int) (r : Bool) (w : World) (hr0 : Kd.C (Kd.int .u8) w A0 l0.length l0) (hc0 : l0.length ≤ c0) (hr1 : Kd.C (Kd.int .u8) w A1 l1.length l1) (hc1 : l1.length ≤ c1) (h : laws_big.f l0 l1 = some r) :
 Calls Tryz.prog 4 #[.slice A0 l0.length c0, .slice A1 l1.length c1] w fun e w' => e = .returned (.bool r) ∧ Drawn0 w w' := by
 have HR0 := Aside0.mk hr0; have HC0 := Aside0.mk hc0; clear hr0 hc0; have HR1 := Aside0.mk hr1; have HC1 := Aside0.mk hc1; clear hr1 hc1; have H := h; rw [laws_big.f] at H; clear h
 by_cases c3 : (l0.length : Int) > 1048576
 ·rw [if_pos c3] at H
  have c3b0 := decide_eq_true c3
  have c3b1 : decide (1048576 < l0.length) = true := decide_eq_true zU0_3
  clear c3
  obtain rfl := Option.some.inj H
  go_enter Tryz.func4, Tryz.ntmps4
  go_wp2
  go_ret
  exact ⟨by first | rfl | (simp; done) | (simp [*]; done), by repeat (first | exact Drawn0.refl _ | apply Drawn0.step)⟩
 ·rw [if_neg c3] at H
  have c3b0 := decide_eq_false c3
  have c3b1 : decide (1048576 < l0.length) = false := decide_eq_false zU0_3
  clear c3
  obtain rfl := Option.some.inj H
  go_enter Tryz.func4, Tryz.ntmps4
  go_wp2
  go_ret
  exact ⟨by first | rfl | (simp; done) | (simp [*]; done), by repeat (first | exact Drawn0.refl _ | apply Drawn0.step)⟩


/-- A state of type 61 at block g of W; what its slices lead to came in by w0. -/
def IsS61 (w0 W : World) (g : Nat) (f0 : List Int) (f1 : Int) (f2 : Int) : Prop := ∃ A0 c0, W.heap[g]? = some (.cells #[.slice A0 f0.length c0, .int .i64 f1, .int .u64 f2] 61 (0, 0)) ∧ w0.heap.size ≤ g ∧ Kd.C (Kd.int .u8) w0 A0 f0.length f0
theorem IsS61.grown {w0 W : World} {g : Nat} {f0 : List Int} {f1 : Int} {f2 : Int} {W1 : World} {row : Option Nat} (h : IsS61 w0 W g f0 f1 f2) (hw : W.grownBy W1 row) (hne : some g ≠ row) : IsS61 w0 W1 g f0 f1 f2 := by
 obtain ⟨A0, c0, hb, hg, hr0⟩ := h
 exact ⟨A0, c0, blk_grown hb hw hne, hg, hr0⟩
theorem IsS61.fresh {w0 W : World} {g : Nat} {f0 : List Int} {f1 : Int} {f2 : Int} (h : IsS61 w0 W g f0 f1 f2) : ∀ k, W.heap.size ≤ k → k ≠ g := by
 obtain ⟨A0, c0, hb, hg, hr0⟩ := h
 exact Kd.freshB hb
theorem IsS61.below {w0 W : World} {g : Nat} {f0 : List Int} {f1 : Int} {f2 : Int} {W1 : World} (h : IsS61 w0 W g f0 f1 f2) (hw : Below W.heap.size W W1) : IsS61 w0 W1 g f0 f1 f2 := h.grown (grown_of_below hw none) zU0_4
theorem IsS61.alloc {w0 W : World} {g : Nat} {f0 : List Int} {f1 : Int} {f2 : Int} (h : IsS61 w0 W g f0 f1 f2) (o : Obj) : IsS61 w0 (W.alloc o) g f0 f1 f2 := h.below (below_alloc (Below.refl _ _) o)
theorem IsS61.drewN {w0 W : World} {g : Nat} {f0 : List Int} {f1 : Int} {f2 : Int} (h : IsS61 w0 W g f0 f1 f2) (m : Nat) : IsS61 w0 (W.drewN m) g f0 f1 f2 := h
theorem IsS61.drew {w0 W : World} {g : Nat} {f0 : List Int} {f1 : Int} {f2 : Int} (h : IsS61 w0 W g f0 f1 f2) : IsS61 w0 W.drew g f0 f1 f2 := h
theorem IsS61.apart {w0 W : World} {g : Nat} {f0 : List Int} {f1 : Int} {f2 : Int} {α : Type} {d : Kd α} {e : Nat} {base : Nat} {ok : Nat → Prop} {v : Value} {xs : List α} (h : IsS61 w0 W g f0 f1 f2) (ho : d.R e W base ok v xs) (ht : ∀ q, q ∈ e :: d.E → q ≠ 61) : d.R e W base (fun k => ok k ∧ k ≠ g) v xs := by
 obtain ⟨A0, c0, hb, hg, hr0⟩ := h
 exact Kd.R_types ho hb ht
theorem IsS61.own_ne {w0 W : World} {g : Nat} {f0 : List Int} {f1 : Int} {f2 : Int} {α : Type} {d : Kd α} {e : Nat} {base : Nat} {ok : Nat → Prop} {v : Value} {xs : List α} (h : IsS61 w0 W g f0 f1 f2) (ho : d.R e W base ok v xs) (ht : e ≠ 61) : some g ≠ v.ownBlock := by
 obtain ⟨A0, c0, hb, hg, hr0⟩ := h
 exact Kd.R_ne ho hb ht
theorem IsS61.lt {w0 W : World} {g : Nat} {f0 : List Int} {f1 : Int} {f2 : Int} (h : IsS61 w0 W g f0 f1 f2) : g < W.heap.size := by
 obtain ⟨A0, c0, hb, hg, hr0⟩ := h
 exact blk_lt hb
theorem IsS61.ge {w0 W : World} {g : Nat} {f0 : List Int} {f1 : Int} {f2 : Int} (h : IsS61 w0 W g f0 f1 f2) : w0.heap.size ≤ g := by
 obtain ⟨A0, c0, hb, hg, hr0⟩ := h
 exact hg
theorem IsS61.far {w0 W : World} {g : Nat} {f0 : List Int} {f1 : Int} {f2 : Int} {p : Addr} (h : IsS61 w0 W g f0 f1 f2) (hne : g ≠ p.block) (u : Value) : IsS61 w0 (W.setCell p u) g f0 f1 f2 := by
 obtain ⟨A0, c0, hb, hg, hr0⟩ := h
 exact ⟨A0, c0, blk_far hb hne u, hg, hr0⟩
theorem cellS61_0 {W : World} {g : Nat} {A0 : Option Addr} {c0 : Nat} {f0 : List Int} {f1 : Int} {f2 : Int} (h : W.heap[g]? = some (.cells #[.slice A0 f0.length c0, .int .i64 f1, .int .u64 f2] 61 (0, 0))) : W.cell? ⟨g, 0, none⟩ = some (.slice A0 f0.length c0) := (blk_cell h 0).trans rfl
theorem cellS61_1 {W : World} {g : Nat} {A0 : Option Addr} {c0 : Nat} {f0 : List Int} {f1 : Int} {f2 : Int} (h : W.heap[g]? = some (.cells #[.slice A0 f0.length c0, .int .i64 f1, .int .u64 f2] 61 (0, 0))) : W.cell? ⟨g, 1, none⟩ = some (.int .i64 f1) := (blk_cell h 1).trans rfl
theorem IsS61.set_1 {w0 W : World} {g : Nat} {f0 : List Int} {f1 : Int} {f2 : Int} (h : IsS61 w0 W g f0 f1 f2) (x : Int) : IsS61 w0 (W.setCell ⟨g, 1, none⟩ (.int .i64 x)) g f0 x f2 := by
 obtain ⟨A0, c0, hb, hg, hr0⟩ := h
 exact ⟨A0, c0, by simpa using blk_set hb 1 (.int .i64 x), hg, hr0⟩
theorem cellS61_2 {W : World} {g : Nat} {A0 : Option Addr} {c0 : Nat} {f0 : List Int} {f1 : Int} {f2 : Int} (h : W.heap[g]? = some (.cells #[.slice A0 f0.length c0, .int .i64 f1, .int .u64 f2] 61 (0, 0))) : W.cell? ⟨g, 2, none⟩ = some (.int .u64 f2) := (blk_cell h 2).trans rfl
theorem IsS61.set_2 {w0 W : World} {g : Nat} {f0 : List Int} {f1 : Int} {f2 : Int} (h : IsS61 w0 W g f0 f1 f2) (x : Int) : IsS61 w0 (W.setCell ⟨g, 2, none⟩ (.int .u64 x)) g f0 f1 x := by
 obtain ⟨A0, c0, hb, hg, hr0⟩ := h
 exact ⟨A0, c0, by simpa using blk_set hb 2 (.int .u64 x), hg, hr0⟩
theorem IsS61.new (w0 W : World) (A0 : Option Addr) (c0 : Nat) (f0 : List Int) (f1 : Int) (f2 : Int) (hB : Below w0.heap.size w0 W) (hr0 : Kd.C (Kd.int .u8) w0 A0 f0.length f0) : IsS61 w0 (W.alloc (.cells #[.slice A0 f0.length c0, .int .i64 f1, .int .u64 f2] 61)) W.heap.size f0 f1 f2 := ⟨A0, c0, by simpa using heap_alloc_new W _, hB.size, hr0⟩
theorem zI61 {w0 w w1 : World} {g : Nat} {f0 : List Int} {f1 : Int} {f2 : Int} {e0 : List Int} {e1 : Int} {e2 : Int} (h : Aside0 (IsS61 w0 w g f0 f1 f2)) (hp : IsS61 w0 w g f0 f1 f2 → IsS61 w0 w1 g e0 e1 e2 := by (intro h_; first | ((repeat (first | (with_reducible first | exact h_ | apply IsS61.alloc | apply IsS61.drewN | apply IsS61.drew | apply IsS61.set_1 | apply IsS61.set_2 | refine IsS61.far ?_ (Aside0.out zU0_2) _) | exact h_)); done) | (simp only [Int.add_zero, Int.zero_add]; repeat (first | (with_reducible first | exact h_ | apply IsS61.alloc | apply IsS61.drewN | apply IsS61.drew | apply IsS61.set_1 | apply IsS61.set_2 | refine IsS61.far ?_ (Aside0.out zU0_2) _) | exact h_)))) : IsS61 w0 w1 g e0 e1 e2 := hp h.out
theorem zJ61 {w0 w w1 w2 : World} {g : Nat} {f0 : List Int} {f1 : Int} {f2 : Int} {e0 : List Int} {e1 : Int} {e2 : Int} (h : Aside0 (IsS61 w0 w g f0 f1 f2)) (hb : Below w1.heap.size w1 w2) (hp : IsS61 w0 w g f0 f1 f2 → IsS61 w0 w1 g e0 e1 e2 := by (intro h_; first | ((repeat (first | (with_reducible first | exact h_ | apply IsS61.alloc | apply IsS61.drewN | apply IsS61.drew | apply IsS61.set_1 | apply IsS61.set_2 | refine IsS61.far ?_ (Aside0.out zU0_2) _) | exact h_)); done) | (simp only [Int.add_zero, Int.zero_add]; repeat (first | (with_reducible first | exact h_ | apply IsS61.alloc | apply IsS61.drewN | apply IsS61.drew | apply IsS61.set_1 | apply IsS61.set_2 | refine IsS61.far ?_ (Aside0.out zU0_2) _) | exact h_)))) : Aside0 (IsS61 w0 w2 g e0 e1 e2) := ⟨IsS61.below (hp h.out) hb⟩
theorem zL61 {w0 w w1 : World} {g g2 : Nat} {f0 : List Int} {f1 : Int} {f2 : Int} {e0 : List Int} {e1 : Int} {e2 : Int} (h : Aside0 (IsS61 w0 w g f0 f1 f2)) (hg : g2 = w1.heap.size) (hp : IsS61 w0 w g f0 f1 f2 → IsS61 w0 w1 g e0 e1 e2 := by (intro h_; first | ((repeat (first | (with_reducible first | exact h_ | apply IsS61.alloc | apply IsS61.drewN | apply IsS61.drew | apply IsS61.set_1 | apply IsS61.set_2 | refine IsS61.far ?_ (Aside0.out zU0_2) _) | exact h_)); done) | (simp only [Int.add_zero, Int.zero_add]; repeat (first | (with_reducible first | exact h_ | apply IsS61.alloc | apply IsS61.drewN | apply IsS61.drew | apply IsS61.set_1 | apply IsS61.set_2 | refine IsS61.far ?_ (Aside0.out zU0_2) _) | exact h_)))) : Aside0 (g ≠ g2) := ⟨by rw [hg]; exact Nat.ne_of_lt (IsS61.lt (hp h.out))⟩
theorem zR61 {w0 w w1 : World} {g g2 : Nat} {f0 : List Int} {f1 : Int} {f2 : Int} {e0 : List Int} {e1 : Int} {e2 : Int} (h : Aside0 (IsS61 w0 w g f0 f1 f2)) (hg : g2 = w1.heap.size) (hp : IsS61 w0 w g f0 f1 f2 → IsS61 w0 w1 g e0 e1 e2 := by (intro h_; first | ((repeat (first | (with_reducible first | exact h_ | apply IsS61.alloc | apply IsS61.drewN | apply IsS61.drew | apply IsS61.set_1 | apply IsS61.set_2 | refine IsS61.far ?_ (Aside0.out zU0_2) _) | exact h_)); done) | (simp only [Int.add_zero, Int.zero_add]; repeat (first | (with_reducible first | exact h_ | apply IsS61.alloc | apply IsS61.drewN | apply IsS61.drew | apply IsS61.set_1 | apply IsS61.set_2 | refine IsS61.far ?_ (Aside0.out zU0_2) _) | exact h_)))) : Aside0 (g2 ≠ g) := ⟨by rw [hg]; exact Nat.ne_of_gt (IsS61.lt (hp h.out))⟩
theorem zY61 {b w w1 : World} (h : Aside0 (Below b.heap.size b w)) (hp : Below b.heap.size b w → Below b.heap.size b w1 := by (intro h_; repeat (first | (with_reducible first | exact h_ | apply below_alloc | apply pw_below_drewN | apply below_drew1 | refine below_set ?_ (Aside0.out zU0_2) | refine below_set ?_ (IsS61.ge (Aside0.out zU0_2))) | exact h_))) : Below b.heap.size b w1 := hp h.out
theorem zH61 {b w w1 w2 : World} (h : Aside0 (Below b.heap.size b w)) (hb : Below w1.heap.size w1 w2) (hp : Below b.heap.size b w → Below b.heap.size b w1 := by (intro h_; repeat (first | (with_reducible first | exact h_ | apply below_alloc | apply pw_below_drewN | apply below_drew1 | refine below_set ?_ (Aside0.out zU0_2) | refine below_set ?_ (IsS61.ge (Aside0.out zU0_2))) | exact h_))) : Aside0 (Below b.heap.size b w2) := ⟨below_step (hp h.out) hb⟩

/-! ### spec_l1Cur_next: function 79 -/
def spec_l1Cur_next.f (s0_0 : List Int) (s0_1 : Int) (s0_2 : Int) : Option (Int × Int × Int) := if s0_1 < (s0_0.length : Int) then (if 0 ≤ s0_1 then (if (wrap64 (s0_1 + 1)) ≤ (s0_0.length : Int) then (some (wrap64 (rd s0_0 s0_1), wrap64 (s0_1 + 1), IntKind.u64.wrap ((IntKind.u64.wrap ((IntKind.u64.wrap (s0_2 * 6364136223846793005)) + (IntKind.u64.wrap (wrap64 (rd s0_0 s0_1))))) + 1442695040888963407))) else (some (wrap64 (Go.bits .and .u64 ((IntKind.u64.wrap ((IntKind.u64.wrap ((IntKind.u64.wrap (s0_2 * 6364136223846793005)) + (IntKind.u64.wrap (wrap64 (rd s0_0 s0_1))))) + 1442695040888963407)) / 1099511627776) 255), wrap64 (s0_1 + 1), IntKind.u64.wrap ((IntKind.u64.wrap ((IntKind.u64.wrap (s0_2 * 6364136223846793005)) + (IntKind.u64.wrap (wrap64 (rd s0_0 s0_1))))) + 1442695040888963407)))) else (none)) else (if (wrap64 (s0_1 + 1)) ≤ (s0_0.length : Int) then (some (0, wrap64 (s0_1 + 1), IntKind.u64.wrap ((IntKind.u64.wrap ((IntKind.u64.wrap (s0_2 * 6364136223846793005)) + 0)) + 1442695040888963407))) else (some (wrap64 (Go.bits .and .u64 ((IntKind.u64.wrap ((IntKind.u64.wrap ((IntKind.u64.wrap (s0_2 * 6364136223846793005)) + 0)) + 1442695040888963407)) / 1099511627776) 255), wrap64 (s0_1 + 1), IntKind.u64.wrap ((IntKind.u64.wrap ((IntKind.u64.wrap (s0_2 * 6364136223846793005)) + 0)) + 1442695040888963407))))
theorem spec_l1Cur_next.calls (g : Nat) (s0_0 : List Int) (s0_1 : Int) (s0_2 : Int) (r1 : Int) (r2 : Int) (r3 : Int) (w0 w : World) (hI : IsS61 w0 w g s0_0 s0_1 s0_2) (hB : Below w0.heap.size w0 w) (h : spec_l1Cur_next.f s0_0 s0_1 s0_2 = some (r1, r2, r3)) :
 Calls Tryz.prog 79 #[.pointer (some ⟨g, 0, none⟩)] w fun e w' => e = .returned (.int .i64 r1) ∧ IsS61 w0 w' g s0_0 r2 r3 ∧ Below w0.heap.size w0 w' ∧ KeepBut w w' g none := by
 have HI0 := Aside0.mk hI
 have HK := Aside0.mk (KeepBut.refl w g none)
 have HL := Aside0.mk hB.size; clear hI; have HW0 := Aside0.mk hB.size; have HB := Aside0.mk hB; clear hB; have H := h; rw [spec_l1Cur_next.f] at H; clear h
 by_cases c2 : s0_1 < (s0_0.length : Int)
 ·rw [if_pos c2] at H
  have c2b0 := decide_eq_true c2; clear c2
  by_cases c3 : 0 ≤ s0_1
  ·rw [if_pos c3] at H
   have c3b0 := decide_eq_true c3; clear c3
   by_cases c4 : (wrap64 (s0_1 + 1)) ≤ (s0_0.length : Int)
   ·rw [if_pos c4] at H
    have c4b0 := decide_eq_true c4; clear c4; simp only [Option.some.injEq, Prod.mk.injEq] at H; obtain ⟨rfl, rfl, rfl⟩ := H
    obtain ⟨ASz5_0, cSz5_0, HGz5, hgz5, HSz5_0⟩ := HI0.out
    have hcz5_0 := cellS61_0 HGz5
    have hcz5_1 := cellS61_1 HGz5
    have hcz5_2 := cellS61_2 HGz5
    have hfz5_1 := blk_frozen HGz5 1
    have hfz5_2 := blk_frozen HGz5 2
    clear HGz5 hgz5
    have p101 : 0 ≤ (s0_1 : Int) := of_decide_eq_true zU0_1
    have q101 : s0_1 < (s0_0.length : Int) := of_decide_eq_true zU0_1
    obtain ⟨ad101, e101, hx101_0⟩ := Kd.at_int HSz5_0 s0_1 p101 q101
    cases e101
    replace hx101_0 := pw_cell_below HB.out hx101_0
    replace p101 := eq_true p101; replace q101 := eq_true q101
    go_enter Tryz.func79, Tryz.ntmps79
    go_wp2
    repeat (go_quiet (fail); try go_wp2)
    go_ret
    exact ⟨zt, (zI61 HI0), zY61 HB, zKe HK⟩
   ·rw [if_neg c4] at H
    have c4b0 := decide_eq_false c4; clear c4; simp only [Option.some.injEq, Prod.mk.injEq] at H; obtain ⟨rfl, rfl, rfl⟩ := H
    obtain ⟨ASz6_0, cSz6_0, HGz6, hgz6, HSz6_0⟩ := HI0.out
    have hcz6_0 := cellS61_0 HGz6
    have hcz6_1 := cellS61_1 HGz6
    have hcz6_2 := cellS61_2 HGz6
    have hfz6_1 := blk_frozen HGz6 1
    have hfz6_2 := blk_frozen HGz6 2
    clear HGz6 hgz6
    have p101 : 0 ≤ (s0_1 : Int) := of_decide_eq_true zU0_1
    have q101 : s0_1 < (s0_0.length : Int) := of_decide_eq_true zU0_1
    obtain ⟨ad101, e101, hx101_0⟩ := Kd.at_int HSz6_0 s0_1 p101 q101
    cases e101
    replace hx101_0 := pw_cell_below HB.out hx101_0
    replace p101 := eq_true p101; replace q101 := eq_true q101
    go_enter Tryz.func79, Tryz.ntmps79
    go_wp2
    repeat (go_quiet (fail); try go_wp2)
    go_ret
    exact ⟨zt, (zI61 HI0), zY61 HB, zKe HK⟩
  ·rw [if_neg c3] at H
   exact absurd H zU0_4
 ·rw [if_neg c2] at H
  have c2b0 := decide_eq_false c2; clear c2
  by_cases c7 : (wrap64 (s0_1 + 1)) ≤ (s0_0.length : Int)
  ·rw [if_pos c7] at H
   have c7b0 := decide_eq_true c7; clear c7; simp only [Option.some.injEq, Prod.mk.injEq] at H; obtain ⟨rfl, rfl, rfl⟩ := H
   obtain ⟨ASz8_0, cSz8_0, HGz8, hgz8, HSz8_0⟩ := HI0.out
   have hcz8_0 := cellS61_0 HGz8
   have hcz8_1 := cellS61_1 HGz8
   have hcz8_2 := cellS61_2 HGz8
   have hfz8_1 := blk_frozen HGz8 1
   have hfz8_2 := blk_frozen HGz8 2
   clear HGz8 hgz8
   go_enter Tryz.func79, Tryz.ntmps79
   go_wp2
   repeat (go_quiet (fail); try go_wp2)
   go_ret
   exact ⟨zt, (zI61 HI0), zY61 HB, zKe HK⟩
  ·rw [if_neg c7] at H
   have c7b0 := decide_eq_false c7; clear c7; simp only [Option.some.injEq, Prod.mk.injEq] at H; obtain ⟨rfl, rfl, rfl⟩ := H
   obtain ⟨ASz9_0, cSz9_0, HGz9, hgz9, HSz9_0⟩ := HI0.out
   have hcz9_0 := cellS61_0 HGz9
   have hcz9_1 := cellS61_1 HGz9
   have hcz9_2 := cellS61_2 HGz9
   have hfz9_1 := blk_frozen HGz9 1
   have hfz9_2 := blk_frozen HGz9 2
   clear HGz9 hgz9
   go_enter Tryz.func79, Tryz.ntmps79
   go_wp2
   repeat (go_quiet (fail); try go_wp2)
   go_ret
   exact ⟨zt, (zI61 HI0), zY61 HB, zKe HK⟩


/-! ### spec_l1Cur_pick: function 61 -/
def spec_l1Cur_pick.f (s0_0 : List Int) (s0_1 : Int) (s0_2 : Int) (a1 : Int) : Option (Int × Int × Int) := if a1 ≤ 1 then (some (0, s0_1, s0_2)) else ((spec_l1Cur_next.f s0_0 s0_1 s0_2).bind fun bt102 => (if a1 > 200 then ((spec_l1Cur_next.f s0_0 bt102.2.1 bt102.2.2).bind fun bt105 => (if a1 = 0 then (none) else (some (Int.tmod (wrap64 ((wrap64 (bt102.1 * 256)) + bt105.1)) a1, bt105.2.1, bt105.2.2)))) else (if a1 = 0 then (none) else (some (Int.tmod bt102.1 a1, bt102.2.1, bt102.2.2)))))
theorem spec_l1Cur_pick.calls (g : Nat) (s0_0 : List Int) (s0_1 : Int) (s0_2 : Int) (a1 : Int) (r1 : Int) (r2 : Int) (r3 : Int) (w0 w : World) (hI : IsS61 w0 w g s0_0 s0_1 s0_2) (hB : Below w0.heap.size w0 w) (h : spec_l1Cur_pick.f s0_0 s0_1 s0_2 a1 = some (r1, r2, r3)) :
 Calls Tryz.prog 61 #[.pointer (some ⟨g, 0, none⟩), .int .i64 a1] w fun e w' => e = .returned (.int .i64 r1) ∧ IsS61 w0 w' g s0_0 r2 r3 ∧ Below w0.heap.size w0 w' ∧ KeepBut w w' g none := by
 have HI0 := Aside0.mk hI
 have HK := Aside0.mk (KeepBut.refl w g none)
 have HL := Aside0.mk hB.size; clear hI; have HW0 := Aside0.mk hB.size; have HB := Aside0.mk hB; clear hB; have H := h; rw [spec_l1Cur_pick.f] at H; clear h
 by_cases c3 : a1 ≤ 1
 ·rw [if_pos c3] at H
  have c3b0 := decide_eq_true c3; clear c3; simp only [Option.some.injEq, Prod.mk.injEq] at H; obtain ⟨rfl, rfl, rfl⟩ := H
  go_enter Tryz.func61, Tryz.ntmps61
  go_wp2
  go_ret
  exact ⟨zt, (zI61 HI0), zY61 HB, zKe HK⟩
 ·rw [if_neg c3] at H
  have c3b0 := decide_eq_false c3; clear c3; obtain ⟨⟨t102, t103, t104⟩, A4, H⟩ := zB H; (try dsimp only at H)
  by_cases c5 : a1 > 200
  ·rw [if_pos c5] at H
   have c5b0 := decide_eq_true c5; clear c5; obtain ⟨⟨t105, t106, t107⟩, A6, H⟩ := zB H; (try dsimp only at H)
   by_cases c7 : a1 = 0
   ·rw [if_pos c7] at H
    exact absurd H zU0_4
   ·rw [if_neg c7] at H
    have c7b0 := beq_eq_false_iff_ne.mpr c7; have c7b1 := bne_iff_ne.mpr c7; simp only [Option.some.injEq, Prod.mk.injEq] at H; obtain ⟨rfl, rfl, rfl⟩ := H
    go_enter Tryz.func61, Tryz.ntmps61
    go_wp2_with (first | ((with_reducible refine gate_callee (f := 79) rfl ?_); refine zG (some 9) Tryz.func79 #[.pointer (some ⟨g, 0, none⟩)] ?_; (with_reducible refine (spec_l1Cur_next.calls g s0_0 s0_1 s0_2 t102 t103 t104 w0 _ ?side1 ?side2 A4.out).mono ?_); (case side1 => exact zI61 HI0); (case side2 => exact zY61 HB); rintro e w8 ⟨rfl, hi, hb, hk⟩; refine ⟨_, rfl, ?_⟩; replace HK := zKt HK hk; replace HB := Aside0.mk hb; replace HI0 := Aside0.mk hi; clear hb hk hi) | ((with_reducible refine gate_callee (f := 79) rfl ?_); refine zG (some 15) Tryz.func79 #[.pointer (some ⟨g, 0, none⟩)] ?_; (with_reducible refine (spec_l1Cur_next.calls g s0_0 t103 t104 t105 t106 t107 w0 _ ?side1 ?side2 A6.out).mono ?_); (case side1 => exact zI61 HI0); (case side2 => exact zY61 HB); rintro e w9 ⟨rfl, hi, hb, hk⟩; refine ⟨_, rfl, ?_⟩; replace HK := zKt HK hk; replace HB := Aside0.mk hb; replace HI0 := Aside0.mk hi; clear hb hk hi))
    go_ret
    exact ⟨zt, (zI61 HI0), zY61 HB, zKe HK⟩
  ·rw [if_neg c5] at H
   have c5b0 := decide_eq_false c5; clear c5
   by_cases c10 : a1 = 0
   ·rw [if_pos c10] at H
    exact absurd H zU0_4
   ·rw [if_neg c10] at H
    have c10b0 := beq_eq_false_iff_ne.mpr c10; have c10b1 := bne_iff_ne.mpr c10; simp only [Option.some.injEq, Prod.mk.injEq] at H; obtain ⟨rfl, rfl, rfl⟩ := H
    go_enter Tryz.func61, Tryz.ntmps61
    go_wp2_with (first | ((with_reducible refine gate_callee (f := 79) rfl ?_); refine zG (some 9) Tryz.func79 #[.pointer (some ⟨g, 0, none⟩)] ?_; (with_reducible refine (spec_l1Cur_next.calls g s0_0 s0_1 s0_2 t102 t103 t104 w0 _ ?side1 ?side2 A4.out).mono ?_); (case side1 => exact zI61 HI0); (case side2 => exact zY61 HB); rintro e w11 ⟨rfl, hi, hb, hk⟩; refine ⟨_, rfl, ?_⟩; replace HK := zKt HK hk; replace HB := Aside0.mk hb; replace HI0 := Aside0.mk hi; clear hb hk hi))
    go_ret
    exact ⟨zt, (zI61 HI0), zY61 HB, zKe HK⟩


/-! ### spec_l1Cur_among: function 37 -/
def spec_l1Cur_among.f (s0_0 : List Int) (s0_1 : Int) (s0_2 : Int) (l1 : List Int) : Option (Int × Int × Int) := (spec_l1Cur_pick.f s0_0 s0_1 s0_2 (l1.length : Int)).bind fun bt108 => (if 0 ≤ bt108.1 then (if bt108.1 < (l1.length : Int) then (some (rd l1 bt108.1, bt108.2.1, bt108.2.2)) else (none)) else (none))
theorem spec_l1Cur_among.calls (g : Nat) (s0_0 : List Int) (s0_1 : Int) (s0_2 : Int) (A1 : Option Addr) (c1 : Nat) (l1 : List Int) (r1 : Int) (r2 : Int) (r3 : Int) (w0 w : World) (hI : IsS61 w0 w g s0_0 s0_1 s0_2) (hB : Below w0.heap.size w0 w) (hr1 : Kd.C (Kd.int .i64) w A1 l1.length l1) (hc1 : l1.length ≤ c1) (hf1 : ∀ ad, A1 = some ad → 0 < l1.length → ad.block ≠ g) (h : spec_l1Cur_among.f s0_0 s0_1 s0_2 l1 = some (r1, r2, r3)) :
 Calls Tryz.prog 37 #[.pointer (some ⟨g, 0, none⟩), .slice A1 l1.length c1] w fun e w' => e = .returned (.int .i64 r1) ∧ IsS61 w0 w' g s0_0 r2 r3 ∧ Below w0.heap.size w0 w' ∧ KeepBut w w' g none := by
 have HR1 := Aside0.mk hr1; have HC1 := Aside0.mk hc1; clear hr1 hc1; have HI0 := Aside0.mk hI
 have HK := Aside0.mk (KeepBut.refl w g none)
 have HL := Aside0.mk hB.size; clear hI; have HW0 := Aside0.mk hB.size; have HB := Aside0.mk hB; clear hB; have H := h; rw [spec_l1Cur_among.f] at H; clear h; obtain ⟨⟨t108, t109, t110⟩, A3, H⟩ := zB H; (try dsimp only at H)
 by_cases c4 : 0 ≤ t108
 ·rw [if_pos c4] at H
  have c4b0 := decide_eq_true c4; clear c4
  by_cases c5 : t108 < (l1.length : Int)
  ·rw [if_pos c5] at H
   have c5b0 := decide_eq_true c5; clear c5; simp only [Option.some.injEq, Prod.mk.injEq] at H; obtain ⟨rfl, rfl, rfl⟩ := H
   go_enter Tryz.func37, Tryz.ntmps37
   go_wp2_with (first | ((with_reducible refine gate_callee (f := 61) rfl ?_); refine zG (some 9) Tryz.func61 #[.pointer (some ⟨g, 0, none⟩), .int .i64 (l1.length : Int)] ?_; (with_reducible refine (spec_l1Cur_pick.calls g s0_0 s0_1 s0_2 (l1.length : Int) t108 t109 t110 w0 _ ?side1 ?side2 A3.out).mono ?_); (case side1 => exact zI61 HI0); (case side2 => exact zY61 HB); rintro e w6 ⟨rfl, hi, hb, hk⟩; refine ⟨_, rfl, ?_⟩; replace HK := zKt HK hk; replace HB := Aside0.mk hb; replace HI0 := Aside0.mk hi; clear hb hk hi; have p111 : 0 ≤ (t108 : Int) := of_decide_eq_true zU0_1; have q111 : t108 < (l1.length : Int) := of_decide_eq_true zU0_1; obtain ⟨ad111, e111, hx111_0⟩ := Kd.at_int HR1.out t108 p111 q111; cases e111; replace hx111_0 := keep_cell HK.out hx111_0 (by first | (rw [add_block]; exact hf1 _ rfl zU0_3) | exact hf1 _ rfl zU0_3 | exact hf1 ad111 rfl zU0_3); replace p111 := eq_true p111; replace q111 := eq_true q111))
   go_ret
   exact ⟨zt, (zI61 HI0), zY61 HB, zKe HK⟩
  ·rw [if_neg c5] at H
   exact absurd H zU0_4
 ·rw [if_neg c4] at H
  exact absurd H zU0_4


/-! ### spec_l1Cur_one: function 55 -/
def spec_l1Cur_one.f (s0_0 : List Int) (s0_1 : Int) (s0_2 : Int) (a1 : Int) : Option (Bool × Int × Int) := (spec_l1Cur_pick.f s0_0 s0_1 s0_2 a1).bind fun bt112 => (some ((bt112.1 == 0), bt112.2.1, bt112.2.2))
theorem spec_l1Cur_one.calls (g : Nat) (s0_0 : List Int) (s0_1 : Int) (s0_2 : Int) (a1 : Int) (r1 : Bool) (r2 : Int) (r3 : Int) (w0 w : World) (hI : IsS61 w0 w g s0_0 s0_1 s0_2) (hB : Below w0.heap.size w0 w) (h : spec_l1Cur_one.f s0_0 s0_1 s0_2 a1 = some (r1, r2, r3)) :
 Calls Tryz.prog 55 #[.pointer (some ⟨g, 0, none⟩), .int .i64 a1] w fun e w' => e = .returned (.bool r1) ∧ IsS61 w0 w' g s0_0 r2 r3 ∧ Below w0.heap.size w0 w' ∧ KeepBut w w' g none := by
 have HI0 := Aside0.mk hI
 have HK := Aside0.mk (KeepBut.refl w g none)
 have HL := Aside0.mk hB.size; clear hI; have HW0 := Aside0.mk hB.size; have HB := Aside0.mk hB; clear hB; have H := h; rw [spec_l1Cur_one.f] at H; clear h; obtain ⟨⟨t112, t113, t114⟩, A3, H⟩ := zB H; (try dsimp only at H); simp only [Option.some.injEq, Prod.mk.injEq] at H; obtain ⟨rfl, rfl, rfl⟩ := H
 go_enter Tryz.func55, Tryz.ntmps55
 go_wp2_with (first | ((with_reducible refine gate_callee (f := 61) rfl ?_); refine zG (some 7) Tryz.func61 #[.pointer (some ⟨g, 0, none⟩), .int .i64 a1] ?_; (with_reducible refine (spec_l1Cur_pick.calls g s0_0 s0_1 s0_2 a1 t112 t113 t114 w0 _ ?side1 ?side2 A3.out).mono ?_); (case side1 => exact zI61 HI0); (case side2 => exact zY61 HB); rintro e w4 ⟨rfl, hi, hb, hk⟩; refine ⟨_, rfl, ?_⟩; replace HK := zKt HK hk; replace HB := Aside0.mk hb; replace HI0 := Aside0.mk hi; clear hb hk hi))
 go_ret
 exact ⟨zt, (zI61 HI0), zY61 HB, zKe HK⟩


/-! ### spec_l1Cur_lamp: function 35 -/
def spec_l1Cur_lamp.f (s0_0 : List Int) (s0_1 : Int) (s0_2 : Int) : Option (Int × Int × Int) := (spec_l1Cur_one.f s0_0 s0_1 s0_2 14).bind fun bt115 => (if bt115.1 = true then ((spec_l1Cur_among.f s0_0 bt115.2.1 bt115.2.2 (([0, 1, (-1), 200, 201, 4611686018427387904] : List Int))).bind fun bt121 => (some (bt121.1, bt121.2.1, bt121.2.2))) else ((spec_l1Cur_pick.f s0_0 bt115.2.1 bt115.2.2 9).bind fun bt124 => (some (wrap64 (4 + bt124.1), bt124.2.1, bt124.2.2))))
theorem spec_l1Cur_lamp.calls (g : Nat) (s0_0 : List Int) (s0_1 : Int) (s0_2 : Int) (r1 : Int) (r2 : Int) (r3 : Int) (w0 w : World) (hI : IsS61 w0 w g s0_0 s0_1 s0_2) (hB : Below w0.heap.size w0 w) (h : spec_l1Cur_lamp.f s0_0 s0_1 s0_2 = some (r1, r2, r3)) :
 Calls Tryz.prog 35 #[.pointer (some ⟨g, 0, none⟩)] w fun e w' => e = .returned (.int .i64 r1) ∧ IsS61 w0 w' g s0_0 r2 r3 ∧ Below w0.heap.size w0 w' ∧ KeepBut w w' g none := by
 have HI0 := Aside0.mk hI
 have HK := Aside0.mk (KeepBut.refl w g none)
 have HL := Aside0.mk hB.size; clear hI; have HW0 := Aside0.mk hB.size; have HB := Aside0.mk hB; clear hB; have H := h; rw [spec_l1Cur_lamp.f] at H; clear h; obtain ⟨⟨t115, t116, t117⟩, A2, H⟩ := zB H; (try dsimp only at H)
 by_cases c3 : t115 = true
 ·subst c3
  rw [if_pos rfl] at H
  obtain ⟨y118, hy118⟩ : ∃ y_ : List Int, y_ = (([0, 1, (-1), 200, 201, 4611686018427387904] : List Int)) := ⟨_, rfl⟩
  replace H : ((spec_l1Cur_among.f s0_0 t116 t117 y118).bind fun bt121 => (some (bt121.1, bt121.2.1, bt121.2.2))) = some (r1, r2, r3) := by first | (rw [hy118]; with_reducible exact H) | (have H2_ := (Option.bind_some _ _).symm.trans H; rw [hy118]; with_reducible exact H2_) | (have H2_ := (Option.bind_some _ _).symm.trans H; with_reducible exact H2_) | with_reducible exact H | (rw [hy118]; exact H) | exact H
  have Ny118 := Aside0.mk hy118; clear hy118; obtain ⟨⟨t121, t122, t123⟩, A4, H⟩ := zB H; (try dsimp only at H); simp only [Option.some.injEq, Prod.mk.injEq] at H; obtain ⟨rfl, rfl, rfl⟩ := H
  go_enter Tryz.func35, Tryz.ntmps35
  go_wp2_with (first | ((with_reducible refine gate_callee (f := 55) rfl ?_); refine zG (some 4) Tryz.func55 #[.pointer (some ⟨g, 0, none⟩), .int .i64 14] ?_; (with_reducible refine (spec_l1Cur_one.calls g s0_0 s0_1 s0_2 14 true t116 t117 w0 _ ?side1 ?side2 A2.out).mono ?_); (case side1 => exact zI61 HI0); (case side2 => exact zY61 HB); rintro e w5 ⟨rfl, hi, hb, hk⟩; refine ⟨_, rfl, ?_⟩; replace HK := zKt HK hk; replace HB := Aside0.mk hb; replace HI0 := Aside0.mk hi; clear hb hk hi) | ((with_reducible refine gate_dst (N := 6) rfl ?_); refine Kd.R_lit (Kd.int .i64) _ 3 ?hg (N := 6) ?hd (xs := ([0, 1, (-1), 200, 201, 4611686018427387904] : List Int)) (inner := [.int .i64 0, .int .i64 1, .int .i64 (-1), .int .i64 200, .int .i64 201, .int .i64 4611686018427387904]) (ok := fun _ => True) (okp := fun _ => True) ?hr ?hp (fun _ hk => hk) trivial (Below.refl _ _) (Nat.le_refl _) zU0_4 ?_; (case hd => rfl); (case hg => rfl); (case hr => first | (go_simp; done) | (go_simp; rfl)); (case hp => exact (Reps.one (show Kd.M (Kd.int .i64) _ _ _ 0 [.int .i64 0] from rfl) (Reps.one (show Kd.M (Kd.int .i64) _ _ _ 1 [.int .i64 1] from rfl) (Reps.one (show Kd.M (Kd.int .i64) _ _ _ (-1) [.int .i64 (-1)] from rfl) (Reps.one (show Kd.M (Kd.int .i64) _ _ _ 200 [.int .i64 200] from rfl) (Reps.one (show Kd.M (Kd.int .i64) _ _ _ 201 [.int .i64 201] from rfl) (Reps.one (show Kd.M (Kd.int .i64) _ _ _ 4611686018427387904 [.int .i64 4611686018427387904] from rfl) (Reps.none _ _)))))))); intro v119 w6 ho7 hb hg_ hnew_; clear hg_ hnew_; (first | rw [← Ny118.out] at ho7 | (simp only [Int.reduceToNat] at ho7; rw [← Ny118.out] at ho7)); have HO120 := Aside0.mk (Kd.R_lower ho7 (keep_size (w := w) (g := g) (row := none) (zKe HK))); replace HI0 := zJ61 HI0 hb; replace HK := zKb HK hb; replace HB := zH61 HB hb; clear hb ho7; obtain ⟨Ao8, co8, eo8⟩ := Kd.R_slice HO120.out; subst eo8) | ((with_reducible refine gate_callee (f := 37) rfl ?_); refine zG (some 7) Tryz.func37 #[.pointer (some ⟨g, 0, none⟩), .slice Ao8 y118.length co8] ?_; (with_reducible refine (spec_l1Cur_among.calls g s0_0 t116 t117 _ _ y118 t121 t122 t123 w0 _ ?side1 ?side2 ?side3 ?side4 ?side5 A4.out).mono ?_); (case side1 => exact zI61 HI0); (case side2 => exact zY61 HB); (case side3 => repeat (first | exact (Kd.R_reads' HO120.out).2.2 | (with_reducible refine Kd.C_alloc ?_ _) | (with_reducible refine Kd.C_drewN ?_ _) | (with_reducible refine Kd.C_drew ?_))); (case side4 => exact (Kd.R_reads' HO120.out).2.1); (case side5 => exact far_slice (IsS61.own_ne HI0.out HO120.out (by decide))); rintro e w9 ⟨rfl, hi, hb, hk⟩; refine ⟨_, rfl, ?_⟩; have n0_ := Aside0.mk (Kd.R_mono (Kd.R_keep (IsS61.apart (show IsS61 w0 _ g s0_0 t116 t117 from (zI61 HI0)) (zs HO120) (by decide)) hk (fun _ h => h.2)) (fun _ h => h.1)); replace HK := zKt HK hk; replace HB := Aside0.mk hb; replace HI0 := Aside0.mk hi; clear HO120; have HO120 := n0_; clear n0_; clear hb hk hi))
  go_ret
  exact ⟨zt, (zI61 HI0), zY61 HB, zKe HK⟩
 ·replace c3 := Bool.eq_false_iff.mpr c3
  subst c3; rw [if_neg (show ¬ (false = true) by decide)] at H; obtain ⟨⟨t124, t125, t126⟩, A10, H⟩ := zB H; (try dsimp only at H); simp only [Option.some.injEq, Prod.mk.injEq] at H; obtain ⟨rfl, rfl, rfl⟩ := H
  go_enter Tryz.func35, Tryz.ntmps35
  go_wp2_with (first | ((with_reducible refine gate_callee (f := 55) rfl ?_); refine zG (some 4) Tryz.func55 #[.pointer (some ⟨g, 0, none⟩), .int .i64 14] ?_; (with_reducible refine (spec_l1Cur_one.calls g s0_0 s0_1 s0_2 14 false t116 t117 w0 _ ?side1 ?side2 A2.out).mono ?_); (case side1 => exact zI61 HI0); (case side2 => exact zY61 HB); rintro e w11 ⟨rfl, hi, hb, hk⟩; refine ⟨_, rfl, ?_⟩; replace HK := zKt HK hk; replace HB := Aside0.mk hb; replace HI0 := Aside0.mk hi; clear hb hk hi) | ((with_reducible refine gate_callee (f := 61) rfl ?_); refine zG (some 9) Tryz.func61 #[.pointer (some ⟨g, 0, none⟩), .int .i64 9] ?_; (with_reducible refine (spec_l1Cur_pick.calls g s0_0 t116 t117 9 t124 t125 t126 w0 _ ?side1 ?side2 A10.out).mono ?_); (case side1 => exact zI61 HI0); (case side2 => exact zY61 HB); rintro e w12 ⟨rfl, hi, hb, hk⟩; refine ⟨_, rfl, ?_⟩; replace HK := zKt HK hk; replace HB := Aside0.mk hb; replace HI0 := Aside0.mk hi; clear hb hk hi))
  go_ret
  exact ⟨zt, (zI61 HI0), zY61 HB, zKe HK⟩


/-! ### spec_l1Cur_surePoles: function 54 -/
def spec_l1Cur_surePoles.l0 : Nat → List (S39) → Int → Int → List Int → Int → Int → Option ((List (S39)) × Int × Int)
 | 0, _, _, _, _, _, _ => none
 | k + 1, x3, x4, x5, x1000, x1001, x1002 => if x5 > 0 then ((spec_l1Cur_pick.f x1000 x1001 x1002 4).bind fun bt130 => ((spec_l1Cur_pick.f x1000 bt130.2.1 bt130.2.2 3).bind fun bt133 => (if x3.length < 8796093022208 then (spec_l1Cur_surePoles.l0 k (x3 ++ [(⟨wrap64 (x4 + (wrap64 (1 + bt130.1))), wrap64 (1 + bt133.1)⟩ : S39)]) (wrap64 (x4 + (wrap64 (1 + bt130.1)))) (wrap64 (x5 - 1)) x1000 bt133.2.1 bt133.2.2) else (none)))) else (some (x3, x1001, x1002))
def spec_l1Cur_surePoles.f (k : Nat) (s0_0 : List Int) (s0_1 : Int) (s0_2 : Int) : Option ((List (S39)) × Int × Int) := (spec_l1Cur_pick.f s0_0 s0_1 s0_2 5).bind fun bt127 => (spec_l1Cur_surePoles.l0 k ([] : List (S39)) 0 (wrap64 (1 + bt127.1)) s0_0 bt127.2.1 bt127.2.2)
theorem spec_l1Cur_surePoles.calls (k : Nat) (g : Nat) (s0_0 : List Int) (s0_1 : Int) (s0_2 : Int) (r1 : List (S39)) (r2 : Int) (r3 : Int) (w0 w : World) (hI : IsS61 w0 w g s0_0 s0_1 s0_2) (hB : Below w0.heap.size w0 w) (h : spec_l1Cur_surePoles.f k s0_0 s0_1 s0_2 = some (r1, r2, r3)) :
 Calls Tryz.prog 54 #[.pointer (some ⟨g, 0, none⟩)] w fun e w' => ∃ v0_ : Value, e = .returned (v0_) ∧ Kd.R k39 39 w' w.heap.size (fun _ => True) v0_ r1 ∧ IsS61 w0 w' g s0_0 r2 r3 ∧ Below w0.heap.size w0 w' ∧ KeepBut w w' g none := by
 have hu39 := Tryz.underlying39; have HI0 := Aside0.mk hI
 have HK := Aside0.mk (KeepBut.refl w g none)
 have HL := Aside0.mk hB.size; clear hI; have HW0 := Aside0.mk hB.size; have HB := Aside0.mk hB; clear hB; have H := h; rw [spec_l1Cur_surePoles.f] at H; clear h; obtain ⟨⟨t127, t128, t129⟩, A2, H⟩ := zB H; (try dsimp only at H); have H' := Aside0.mk H; clear H
 go_enter Tryz.func54, Tryz.ntmps54
 go_wp2_with (first | ((with_reducible refine gate_callee (f := 61) rfl ?_); refine zG (some 7) Tryz.func61 #[.pointer (some ⟨g, 0, none⟩), .int .i64 5] ?_; (with_reducible refine (spec_l1Cur_pick.calls g s0_0 s0_1 s0_2 5 t127 t128 t129 w0 _ ?side1 ?side2 A2.out).mono ?_); (case side1 => exact zI61 HI0); (case side2 => exact zY61 HB); rintro e w3 ⟨rfl, hi, hb, hk⟩; refine ⟨_, rfl, ?_⟩; replace HK := zKt HK hk; replace HB := Aside0.mk hb; replace HI0 := Aside0.mk hi; clear hb hk hi))
 go_loopg [3, 4, 5] k (fun kq v3 v4 v5 w' => ∃ (x3_1 : List (S39)) (x4_1 : Int) (x5_1 : Int) (x1001_1 : Int) (x1002_1 : Int), v4 = .int .i64 x4_1 ∧ v5 = .int .i64 x5_1 ∧ Aside0 (spec_l1Cur_surePoles.l0 kq x3_1 x4_1 x5_1 s0_0 x1001_1 x1002_1 = some (r1, r2, r3)) ∧ Aside0 (kq ≤ k) ∧ Aside0 (Kd.R k39 39 w' w.heap.size (fun _ => True) v3 x3_1) ∧ Aside0 (IsS61 w0 w' g s0_0 x1001_1 x1002_1) ∧ Aside0 (KeepBut w w' g none) ∧ Aside0 (Below w0.heap.size w0 w'))
 case atStart => exact ⟨(([] : List (S39))), (0), (wrap64 (1 + t127)), (t128), (t129), zu, zu, H', ⟨Nat.le_refl _⟩, ⟨by first | exact Kd.R_nil _ _ _ _ _ | exact Kd.N_nil _ _ _ _ _ | exact Kd.V_nil _ _ _ _ _ | exact Kd.Q_nil _ _ _ _ _ | exact Kd.S_nil _ _ _ _ _⟩, ⟨(zI61 HI0)⟩, ⟨zKe HK⟩, ⟨zY61 HB⟩⟩
 case round =>
  clear H'
  obtain ⟨x3_1, x4_1, x5_1, x1001_1, x1002_1, rfl, rfl, HA, HK1, HO_3, HI0, HK, HB⟩ := hrel
  cases gk with
  | zero => exact absurd HA.out (by simp [spec_l1Cur_surePoles.l0])
  | succ k1 =>
   have H := HA.out; clear HA; simp only [spec_l1Cur_surePoles.l0] at H
   by_cases c4 : x5_1 > 0
   ·rw [if_pos c4] at H
    have c4b0 := decide_eq_true c4; clear c4; obtain ⟨⟨t130, t131, t132⟩, A5, H⟩ := zB H; (try dsimp only at H); obtain ⟨⟨t133, t134, t135⟩, A6, H⟩ := zB H; (try dsimp only at H)
    by_cases c7 : x3_1.length < 8796093022208
    ·rw [if_pos c7] at H
     have LMc7 := Aside0.mk c7; clear c7
     obtain ⟨y136, hy136⟩ : ∃ y_ : List (S39), y_ = (x3_1 ++ [(⟨wrap64 (x4_1 + (wrap64 (1 + t130))), wrap64 (1 + t133)⟩ : S39)]) := ⟨_, rfl⟩
     replace H : (spec_l1Cur_surePoles.l0 k1 y136 (wrap64 (x4_1 + (wrap64 (1 + t130)))) (wrap64 (x5_1 - 1)) s0_0 t134 t135) = some (r1, r2, r3) := by first | (rw [hy136]; with_reducible exact H) | (have H2_ := (Option.bind_some _ _).symm.trans H; rw [hy136]; with_reducible exact H2_) | (have H2_ := (Option.bind_some _ _).symm.trans H; with_reducible exact H2_) | with_reducible exact H | (rw [hy136]; exact H) | exact H
     have Ny136 := Aside0.mk hy136; clear hy136; have H' := Aside0.mk H; clear H
     go_wp2_with (first | ((with_reducible refine gate_callee (f := 61) rfl ?_); refine zG (some 15) Tryz.func61 #[.pointer (some ⟨g, 0, none⟩), .int .i64 4] ?_; (with_reducible refine (spec_l1Cur_pick.calls g s0_0 x1001_1 x1002_1 4 t130 t131 t132 w0 _ ?side1 ?side2 A5.out).mono ?_); (case side1 => exact zI61 HI0); (case side2 => exact zY61 HB); rintro e w8 ⟨rfl, hi, hb, hk⟩; refine ⟨_, rfl, ?_⟩; have n0_ := Aside0.mk (Kd.R_mono (Kd.R_keep (IsS61.apart (show IsS61 w0 _ g s0_0 x1001_1 x1002_1 from (zI61 HI0)) (zs HO_3) (by decide)) hk (fun _ h => h.2)) (fun _ h => h.1)); replace HK := zKt HK hk; replace HB := Aside0.mk hb; replace HI0 := Aside0.mk hi; clear HO_3; have HO_3 := n0_; clear n0_; clear hb hk hi) | ((with_reducible refine gate_callee (f := 61) rfl ?_); refine zG (some 21) Tryz.func61 #[.pointer (some ⟨g, 0, none⟩), .int .i64 3] ?_; (with_reducible refine (spec_l1Cur_pick.calls g s0_0 t131 t132 3 t133 t134 t135 w0 _ ?side1 ?side2 A6.out).mono ?_); (case side1 => exact zI61 HI0); (case side2 => exact zY61 HB); rintro e w9 ⟨rfl, hi, hb, hk⟩; refine ⟨_, rfl, ?_⟩; have n0_ := Aside0.mk (Kd.R_mono (Kd.R_keep (IsS61.apart (show IsS61 w0 _ g s0_0 t131 t132 from (zI61 HI0)) (zs HO_3) (by decide)) hk (fun _ h => h.2)) (fun _ h => h.1)); replace HK := zKt HK hk; replace HB := Aside0.mk hb; replace HI0 := Aside0.mk hi; clear HO_3; have HO_3 := n0_; clear n0_; clear hb hk hi) | ((with_reducible refine gate_builtin (b := .append) (xs := #[.tmp 18, .tmp 24]) rfl ?_); at_builtin; refine Kd.R_append k39 w.heap.size rfl (.tmp 18) (.tmp 24) 24 39 (.agg #[(.int .i64 0), (.int .i64 0)]) 16 rfl Tryz.underlying24 info39 rfl (by decide) zU0_3 u3 x3_1 (⟨wrap64 (x4_1 + (wrap64 (1 + t130))), wrap64 (1 + t133)⟩ : S39) [.int .i64 (wrap64 (x4_1 + (wrap64 (1 + t130)))), .int .i64 (wrap64 (1 + t133))] (fun _ => True) (fun _ => False) rfl rfl ?aP (fun _ hk => hk.elim) ?aF ?aO (Below.refl _ _) ?aS ?aL ?_; (case aP => exact k39_mkM _ _ _ (⟨wrap64 (x4_1 + (wrap64 (1 + t130))), wrap64 (1 + t133)⟩ : S39)); (case aF => exact (fun _ _ => trivial)); (case aO => exact (zs HO_3)); (case aS => exact (keep_size (w := w) (g := g) (row := none) (zKe HK))); (case aL => have := LMc7.out; omega); intro v137 w10 ho hb hg hat; rw [← Ny136.out] at ho; have n0_ := Aside0.mk (IsS61.grown ((zI61 HI0)) hg (IsS61.own_ne HI0.out HO_3.out (by decide))); have n1_ := Aside0.mk (below_weaken (zY61 HB) HL.out hb); have n2_ := Aside0.mk (KeepBut.trans (zKe HK) (KeepBut.of_grown hg g) (Kd.R_base2 HO_3.out)); have HO138 := Aside0.mk (ho); clear HO_3; clear HI0; have HI0 := n0_; clear n0_; clear HB; have HB := n1_; clear n1_; clear HK; have HK := n2_; clear n2_; clear ho hb hg hat))
     go_roundg k1
     case measure => have := HK1.out; omega
     case rel => exact ⟨(y136), (wrap64 (x4_1 + (wrap64 (1 + t130)))), (wrap64 (x5_1 - 1)), (t134), (t135), zu, zu, H', ⟨by have := HK1.out; omega⟩, zp HO138, ⟨(zI61 HI0)⟩, ⟨zKe HK⟩, ⟨zY61 HB⟩⟩
    ·rw [if_neg c7] at H
     exact absurd H zU0_4
   ·rw [if_neg c4] at H
    have c4b0 := decide_eq_false c4; clear c4; simp only [Option.some.injEq, Prod.mk.injEq] at H; obtain ⟨rfl, rfl, rfl⟩ := H
    go_wp2
    go_ret
    exact ⟨_, zt, by (with_reducible repeat (first | apply Kd.R_alloc | apply Kd.R_drewN | apply Kd.R_drew)); exact HO_3.out, (zI61 HI0), zY61 HB, zKe HK⟩


/-! ### spec_l1Cur_poles: function 36 -/
def spec_l1Cur_poles.f (k : Nat) (s0_0 : List Int) (s0_1 : Int) (s0_2 : Int) : Option ((List (S39)) × Int × Int) := (spec_l1Cur_surePoles.f k s0_0 s0_1 s0_2).bind fun bt139 => ((spec_l1Cur_pick.f s0_0 bt139.2.1 bt139.2.2 14).bind fun bt144 => (if bt144.1 = 0 then (some (([] : List (S39)), bt144.2.1, bt144.2.2)) else (if bt144.1 = 1 then ((spec_l1Cur_among.f s0_0 bt144.2.1 bt144.2.2 (([0, (-1), 9, 201, 4611686018427387904] : List Int))).bind fun bt150 => (if 0 < (bt139.1.length : Int) then (some ((bt139.1.set (0 : Int).toNat (⟨(rd_T39 bt139.1 0).f0, bt150.1⟩ : S39)), bt150.2.1, bt150.2.2)) else (none))) else (if bt144.1 = 2 then (if 0 < (bt139.1.length : Int) then (if bt139.1.length < 8796093022208 then (some ((bt139.1 ++ [(⟨(rd_T39 bt139.1 0).f0, (rd_T39 bt139.1 0).f1⟩ : S39)]), bt144.2.1, bt144.2.2)) else (none)) else (none)) else (some (bt139.1, bt144.2.1, bt144.2.2))))))
theorem spec_l1Cur_poles.calls (k : Nat) (g : Nat) (s0_0 : List Int) (s0_1 : Int) (s0_2 : Int) (r1 : List (S39)) (r2 : Int) (r3 : Int) (w0 w : World) (hI : IsS61 w0 w g s0_0 s0_1 s0_2) (hB : Below w0.heap.size w0 w) (h : spec_l1Cur_poles.f k s0_0 s0_1 s0_2 = some (r1, r2, r3)) :
 Calls Tryz.prog 36 #[.pointer (some ⟨g, 0, none⟩)] w fun e w' => ∃ v0_ : Value, e = .returned (v0_) ∧ Kd.R k39 39 w' w.heap.size (fun _ => True) v0_ r1 ∧ IsS61 w0 w' g s0_0 r2 r3 ∧ Below w0.heap.size w0 w' ∧ KeepBut w w' g none := by
 have hu39 := Tryz.underlying39; have HI0 := Aside0.mk hI
 have HK := Aside0.mk (KeepBut.refl w g none)
 have HL := Aside0.mk hB.size; clear hI; have HW0 := Aside0.mk hB.size; have HB := Aside0.mk hB; clear hB; have H := h; rw [spec_l1Cur_poles.f] at H; clear h; obtain ⟨⟨t139, t142, t143⟩, A2, H⟩ := zB H; (try dsimp only at H); obtain ⟨⟨t144, t145, t146⟩, A3, H⟩ := zB H; (try dsimp only at H)
 by_cases c4 : t144 = 0
 ·rw [if_pos c4] at H
  have c4b0 := beq_iff_eq.mpr c4; have c4b1 := bne_eq_false_iff_eq.mpr c4; clear c4; simp only [Option.some.injEq, Prod.mk.injEq] at H; obtain ⟨rfl, rfl, rfl⟩ := H
  go_enter Tryz.func36, Tryz.ntmps36
  go_wp2_with (first | ((with_reducible refine gate_callee (f := 54) rfl ?_); refine zG (some 5) Tryz.func54 #[.pointer (some ⟨g, 0, none⟩)] ?_; (with_reducible refine (spec_l1Cur_surePoles.calls k g s0_0 s0_1 s0_2 t139 t142 t143 w0 _ ?side1 ?side2 A2.out).mono ?_); (case side1 => exact zI61 HI0); (case side2 => exact zY61 HB); rintro e w5 ⟨v140, rfl, ho0, hi, hb, hk⟩; refine ⟨_, rfl, ?_⟩; have HO141 := Aside0.mk (Kd.R_lower ho0 (keep_size (w := w) (g := g) (row := none) (zKe HK))); replace HK := zKt HK hk; replace HB := Aside0.mk hb; replace HI0 := Aside0.mk hi; clear hb hk hi ho0) | ((with_reducible refine gate_callee (f := 61) rfl ?_); refine zG (some 7) Tryz.func61 #[.pointer (some ⟨g, 0, none⟩), .int .i64 14] ?_; (with_reducible refine (spec_l1Cur_pick.calls g s0_0 t142 t143 14 t144 t145 t146 w0 _ ?side1 ?side2 A3.out).mono ?_); (case side1 => exact zI61 HI0); (case side2 => exact zY61 HB); rintro e w6 ⟨rfl, hi, hb, hk⟩; refine ⟨_, rfl, ?_⟩; have n0_ := Aside0.mk (Kd.R_mono (Kd.R_keep (IsS61.apart (show IsS61 w0 _ g s0_0 t142 t143 from (zI61 HI0)) (zs HO141) (by decide)) hk (fun _ h => h.2)) (fun _ h => h.1)); replace HK := zKt HK hk; replace HB := Aside0.mk hb; replace HI0 := Aside0.mk hi; clear HO141; have HO141 := n0_; clear n0_; clear hb hk hi))
  go_ret
  exact ⟨_, zt, by first | exact Kd.R_nil _ _ _ _ _ | exact Kd.N_nil _ _ _ _ _ | exact Kd.V_nil _ _ _ _ _ | exact Kd.Q_nil _ _ _ _ _ | exact Kd.S_nil _ _ _ _ _, (zI61 HI0), zY61 HB, zKe HK⟩
 ·rw [if_neg c4] at H
  have c4b0 := beq_eq_false_iff_ne.mpr c4; have c4b1 := bne_iff_ne.mpr c4
  by_cases c7 : t144 = 1
  ·rw [if_pos c7] at H
   have c7b0 := beq_iff_eq.mpr c7; have c7b1 := bne_eq_false_iff_eq.mpr c7; clear c7
   obtain ⟨y147, hy147⟩ : ∃ y_ : List Int, y_ = (([0, (-1), 9, 201, 4611686018427387904] : List Int)) := ⟨_, rfl⟩
   replace H : ((spec_l1Cur_among.f s0_0 t145 t146 y147).bind fun bt150 => (if 0 < (t139.length : Int) then (some ((t139.set (0 : Int).toNat (⟨(rd_T39 t139 0).f0, bt150.1⟩ : S39)), bt150.2.1, bt150.2.2)) else (none))) = some (r1, r2, r3) := by first | (rw [hy147]; with_reducible exact H) | (have H2_ := (Option.bind_some _ _).symm.trans H; rw [hy147]; with_reducible exact H2_) | (have H2_ := (Option.bind_some _ _).symm.trans H; with_reducible exact H2_) | with_reducible exact H | (rw [hy147]; exact H) | exact H
   have Ny147 := Aside0.mk hy147; clear hy147; obtain ⟨⟨t150, t151, t152⟩, A8, H⟩ := zB H; (try dsimp only at H)
   by_cases c9 : 0 < (t139.length : Int)
   ·rw [if_pos c9] at H
    have c9b0 := decide_eq_true c9
    have c9b1 : decide (0 < t139.length) = true := decide_eq_true zU0_3
    clear c9
    obtain ⟨y153, hy153⟩ : ∃ y_ : List (S39), y_ = (t139.set (0 : Int).toNat (⟨(rd_T39 t139 0).f0, t150⟩ : S39)) := ⟨_, rfl⟩
    replace H : (some (y153, t151, t152)) = some (r1, r2, r3) := by first | (rw [hy153]; with_reducible exact H) | (have H2_ := (Option.bind_some _ _).symm.trans H; rw [hy153]; with_reducible exact H2_) | (have H2_ := (Option.bind_some _ _).symm.trans H; with_reducible exact H2_) | with_reducible exact H | (rw [hy153]; exact H) | exact H
    have Ny153 := Aside0.mk hy153; clear hy153; simp only [Option.some.injEq, Prod.mk.injEq] at H; obtain ⟨rfl, rfl, rfl⟩ := H
    go_enter Tryz.func36, Tryz.ntmps36
    go_wp2_with (first | ((with_reducible refine gate_callee (f := 54) rfl ?_); refine zG (some 5) Tryz.func54 #[.pointer (some ⟨g, 0, none⟩)] ?_; (with_reducible refine (spec_l1Cur_surePoles.calls k g s0_0 s0_1 s0_2 t139 t142 t143 w0 _ ?side1 ?side2 A2.out).mono ?_); (case side1 => exact zI61 HI0); (case side2 => exact zY61 HB); rintro e w11 ⟨v140, rfl, ho0, hi, hb, hk⟩; refine ⟨_, rfl, ?_⟩; have HO141 := Aside0.mk (Kd.R_lower ho0 (keep_size (w := w) (g := g) (row := none) (zKe HK))); replace HK := zKt HK hk; replace HB := Aside0.mk hb; replace HI0 := Aside0.mk hi; clear hb hk hi ho0) | ((with_reducible refine gate_callee (f := 61) rfl ?_); refine zG (some 7) Tryz.func61 #[.pointer (some ⟨g, 0, none⟩), .int .i64 14] ?_; (with_reducible refine (spec_l1Cur_pick.calls g s0_0 t142 t143 14 t144 t145 t146 w0 _ ?side1 ?side2 A3.out).mono ?_); (case side1 => exact zI61 HI0); (case side2 => exact zY61 HB); rintro e w12 ⟨rfl, hi, hb, hk⟩; refine ⟨_, rfl, ?_⟩; have n0_ := Aside0.mk (Kd.R_mono (Kd.R_keep (IsS61.apart (show IsS61 w0 _ g s0_0 t142 t143 from (zI61 HI0)) (zs HO141) (by decide)) hk (fun _ h => h.2)) (fun _ h => h.1)); replace HK := zKt HK hk; replace HB := Aside0.mk hb; replace HI0 := Aside0.mk hi; clear HO141; have HO141 := n0_; clear n0_; clear hb hk hi) | ((with_reducible refine gate_dst (N := 14) rfl ?_); refine Kd.R_lit (Kd.int .i64) _ 3 ?hg (N := 14) ?hd (xs := ([0, (-1), 9, 201, 4611686018427387904] : List Int)) (inner := [.int .i64 0, .int .i64 (-1), .int .i64 9, .int .i64 201, .int .i64 4611686018427387904]) (ok := fun _ => True) (okp := fun _ => True) ?hr ?hp (fun _ hk => hk) trivial (Below.refl _ _) (Nat.le_refl _) zU0_4 ?_; (case hd => rfl); (case hg => rfl); (case hr => first | (go_simp; done) | (go_simp; rfl)); (case hp => exact (Reps.one (show Kd.M (Kd.int .i64) _ _ _ 0 [.int .i64 0] from rfl) (Reps.one (show Kd.M (Kd.int .i64) _ _ _ (-1) [.int .i64 (-1)] from rfl) (Reps.one (show Kd.M (Kd.int .i64) _ _ _ 9 [.int .i64 9] from rfl) (Reps.one (show Kd.M (Kd.int .i64) _ _ _ 201 [.int .i64 201] from rfl) (Reps.one (show Kd.M (Kd.int .i64) _ _ _ 4611686018427387904 [.int .i64 4611686018427387904] from rfl) (Reps.none _ _))))))); intro v148 w13 ho14 hb hg_ hnew_; clear hg_ hnew_; (first | rw [← Ny147.out] at ho14 | (simp only [Int.reduceToNat] at ho14; rw [← Ny147.out] at ho14)); have HO149 := Aside0.mk (Kd.R_lower ho14 (keep_size (w := w) (g := g) (row := none) (zKe HK))); replace HO141 := zo HO141 hb; replace HI0 := zJ61 HI0 hb; replace HK := zKb HK hb; replace HB := zH61 HB hb; clear hb ho14; obtain ⟨Ao15, co15, eo15⟩ := Kd.R_slice HO149.out; subst eo15) | ((with_reducible refine gate_callee (f := 37) rfl ?_); refine zG (some 15) Tryz.func37 #[.pointer (some ⟨g, 0, none⟩), .slice Ao15 y147.length co15] ?_; (with_reducible refine (spec_l1Cur_among.calls g s0_0 t145 t146 _ _ y147 t150 t151 t152 w0 _ ?side1 ?side2 ?side3 ?side4 ?side5 A8.out).mono ?_); (case side1 => exact zI61 HI0); (case side2 => exact zY61 HB); (case side3 => repeat (first | exact (Kd.R_reads' HO149.out).2.2 | (with_reducible refine Kd.C_alloc ?_ _) | (with_reducible refine Kd.C_drewN ?_ _) | (with_reducible refine Kd.C_drew ?_))); (case side4 => exact (Kd.R_reads' HO149.out).2.1); (case side5 => exact far_slice (IsS61.own_ne HI0.out HO149.out (by decide))); rintro e w16 ⟨rfl, hi, hb, hk⟩; refine ⟨_, rfl, ?_⟩; have n0_ := Aside0.mk (Kd.R_mono (Kd.R_keep (IsS61.apart (show IsS61 w0 _ g s0_0 t145 t146 from (zI61 HI0)) (zs HO141) (by decide)) hk (fun _ h => h.2)) (fun _ h => h.1)); have n1_ := Aside0.mk (Kd.R_mono (Kd.R_keep (IsS61.apart (show IsS61 w0 _ g s0_0 t145 t146 from (zI61 HI0)) (zs HO149) (by decide)) hk (fun _ h => h.2)) (fun _ h => h.1)); replace HK := zKt HK hk; replace HB := Aside0.mk hb; replace HI0 := Aside0.mk hi; clear HO141; have HO141 := n0_; clear n0_; clear HO149; have HO149 := n1_; clear n1_; clear hb hk hi; have p10 : 0 ≤ (0 : Int) := zU0_3; have q10 : (0 : Int) < ((t139.length : Int) : Int) := of_decide_eq_true zU0_1; have qi10 : (0 < t139.length) = True := eq_true zU0_3; obtain ⟨go10, co10, eo10, gb10, gl10, cl10, HG10⟩ := Kd.R_form HO141.out zU0_3; (first | cases eo10 | (injection eo10 with ea_ en_ ec_; (first | subst ea_ | (injection ea_ with ea_; subst ea_)); subst ec_; clear en_)); have GB10 := Aside0.mk gb10; have GG10 := Aside0.mk HG10; clear gb10 gl10 HG10; obtain ⟨ce10, hcl10, hM10, hcc10, hfr10⟩ := Kd.R_elem HO141.out z39 (0 : Int) p10 q10; obtain rfl := k39_openM hM10; have hx10_0 : w16.cell? ⟨go10, (0 : Int).toNat * 2, none⟩ = some (.int .i64 ((rd_T39 t139 0).f0)) := hcc10 0 _ rfl; have hx10_1 : w16.cell? ⟨go10, (0 : Int).toNat * 2 + 1, none⟩ = some (.int .i64 ((rd_T39 t139 0).f1)) := hcc10 1 _ rfl; have hf10_0 : w16.frozen? ⟨go10, (0 : Int).toNat * 2, none⟩ = false := hfr10 0; have hf10_1 : w16.frozen? ⟨go10, (0 : Int).toNat * 2 + 1, none⟩ = false := hfr10 1; clear hcl10 hcc10 hfr10 hM10; (try rw [show ((0 : Int)).toNat = 0 from rfl] at hx10_0); (try simp only [Nat.reduceMul, Nat.zero_mul, Nat.zero_add, Nat.reduceAdd] at hx10_0); (try rw [show ((0 : Int)).toNat = 0 from rfl] at hf10_0); (try simp only [Nat.reduceMul, Nat.zero_mul, Nat.zero_add, Nat.reduceAdd] at hf10_0); (try rw [show ((0 : Int)).toNat = 0 from rfl] at hx10_1); (try simp only [Nat.reduceMul, Nat.zero_mul, Nat.zero_add, Nat.reduceAdd] at hx10_1); (try rw [show ((0 : Int)).toNat = 0 from rfl] at hf10_1); (try simp only [Nat.reduceMul, Nat.zero_mul, Nat.zero_add, Nat.reduceAdd] at hf10_1); replace p10 := eq_true p10; replace q10 := eq_true q10; have HX17 := Aside0.mk (show Kd.R k39 39 w16 w.heap.size (fun _ => True) (.slice (some ⟨go10, 0, none⟩) t139.length co10) t139 from (zs HO141)); obtain ⟨ce17, hcl17, hM17, hcc17, hfr17⟩ := Kd.R_elem HX17.out z39 (0 : Int) zU0_3 (by have h_ : (0 : Int) < ((t139.length : Int) : Int) := of_decide_eq_true zU0_1; first | exact h_ | (have e_ := (Kd.R_reads' HO141.out).1; omega) | simpa using h_); obtain rfl := k39_openM hM17; have HP17 := Kd.R_seg HX17.out (0 : Int) zU0_3 (by have h_ : (0 : Int) < ((t139.length : Int) : Int) := of_decide_eq_true zU0_1; first | exact h_ | (have e_ := (Kd.R_reads' HO141.out).1; omega) | simpa using h_) (seg := [.int .i64 t150]) (j := 1) hcl17 hcc17 (show 2 ≤ 2 from by decide) (x' := (⟨(rd_T39 t139 0).f0, t150⟩ : S39)) (k39_mkM _ _ _ (⟨(rd_T39 t139 0).f0, t150⟩ : S39) ) (fun _ hk => hk); have hx17_1 := hcc17 1 _ rfl; (try simp only [show (k39).sz = 2 from rfl, Nat.mul_one, Nat.add_zero] at hx17_1); (try rw [show ((0 : Int)).toNat = 0 from rfl] at hx17_1); (try simp only [Nat.reduceMul, Nat.zero_mul, Nat.zero_add, Nat.reduceAdd] at hx17_1); have hf17_1 := hfr17 1; (try simp only [show (k39).sz = 2 from rfl, Nat.mul_one, Nat.add_zero] at hf17_1); (try rw [show ((0 : Int)).toNat = 0 from rfl] at hf17_1); (try simp only [Nat.reduceMul, Nat.zero_mul, Nat.zero_add, Nat.reduceAdd] at hf17_1); clear hcl17 hcc17 hfr17 hM17) | ((with_reducible refine gate_store (t := 3) (p := 17) rfl ?_); refine store_event (t := 3) (p := 17) (v := ?vo_w18) (w1 := (w16.setCell ⟨go10, 1, none⟩ (.int .i64 t150))) ?hg ?ho ?hn ?hr ?_; (case ho => rfl); (case hg => rfl); (case hn => rfl); (case hr => first | (go_simp; done) | (go_simp; rfl)); intro w18 hw; have hg : w16.grownBy w18 (some go10) := (by rw [hw]; exact HP17.2); have hp_ : Kd.R k39 39 w18 w.heap.size (fun _ => True) (.slice (some ⟨go10, 0, none⟩) t139.length co10) y153 := (by rw [hw, Ny153.out]; exact HP17.1); clear HP17; have n0_ := Aside0.mk (IsS61.grown ((zI61 HI0)) hg (IsS61.own_ne HI0.out HO141.out (by decide))); have n1_ := Aside0.mk (hp_); have n2_ := Aside0.mk (Kd.R_over' (v := (.slice (some ⟨go10, 0, none⟩) t139.length co10)) (zs HO149) (Kd.R_typed HO141.out) (by decide) hg); have n3_ := Aside0.mk ((by rw [hw]; exact below_set (HB.out) (Nat.le_trans HL.out GB10.out) : Below w0.heap.size w0 w18)); have n4_ := Aside0.mk (KeepBut.trans (zKe HK) (KeepBut.of_grown hg g) (Kd.R_base2 HO141.out)); clear HI0; have HI0 := n0_; clear n0_; clear HO141; have HO141 := n1_; clear n1_; clear HO149; have HO149 := n2_; clear n2_; clear HB; have HB := n3_; clear n3_; clear HK; have HK := n4_; clear n4_; clear hg hw hp_))
    go_ret
    exact ⟨_, zt, by (with_reducible repeat (first | apply Kd.R_alloc | apply Kd.R_drewN | apply Kd.R_drew)); exact HO141.out, (zI61 HI0), zY61 HB, zKe HK⟩
   ·rw [if_neg c9] at H
    exact absurd H zU0_4
  ·rw [if_neg c7] at H
   have c7b0 := beq_eq_false_iff_ne.mpr c7; have c7b1 := bne_iff_ne.mpr c7
   by_cases c19 : t144 = 2
   ·rw [if_pos c19] at H
    have c19b0 := beq_iff_eq.mpr c19; have c19b1 := bne_eq_false_iff_eq.mpr c19; clear c19
    by_cases c20 : 0 < (t139.length : Int)
    ·rw [if_pos c20] at H
     have c20b0 := decide_eq_true c20
     have c20b1 : decide (0 < t139.length) = true := decide_eq_true zU0_3
     clear c20
     by_cases c21 : t139.length < 8796093022208
     ·rw [if_pos c21] at H
      have LMc21 := Aside0.mk c21; clear c21
      obtain ⟨y155, hy155⟩ : ∃ y_ : List (S39), y_ = (t139 ++ [(⟨(rd_T39 t139 0).f0, (rd_T39 t139 0).f1⟩ : S39)]) := ⟨_, rfl⟩
      replace H : (some (y155, t145, t146)) = some (r1, r2, r3) := by first | (rw [hy155]; with_reducible exact H) | (have H2_ := (Option.bind_some _ _).symm.trans H; rw [hy155]; with_reducible exact H2_) | (have H2_ := (Option.bind_some _ _).symm.trans H; with_reducible exact H2_) | with_reducible exact H | (rw [hy155]; exact H) | exact H
      have Ny155 := Aside0.mk hy155; clear hy155; simp only [Option.some.injEq, Prod.mk.injEq] at H; obtain ⟨rfl, rfl, rfl⟩ := H
      go_enter Tryz.func36, Tryz.ntmps36
      go_wp2_with (first | ((with_reducible refine gate_callee (f := 54) rfl ?_); refine zG (some 5) Tryz.func54 #[.pointer (some ⟨g, 0, none⟩)] ?_; (with_reducible refine (spec_l1Cur_surePoles.calls k g s0_0 s0_1 s0_2 t139 t142 t143 w0 _ ?side1 ?side2 A2.out).mono ?_); (case side1 => exact zI61 HI0); (case side2 => exact zY61 HB); rintro e w22 ⟨v140, rfl, ho0, hi, hb, hk⟩; refine ⟨_, rfl, ?_⟩; have HO141 := Aside0.mk (Kd.R_lower ho0 (keep_size (w := w) (g := g) (row := none) (zKe HK))); replace HK := zKt HK hk; replace HB := Aside0.mk hb; replace HI0 := Aside0.mk hi; clear hb hk hi ho0) | ((with_reducible refine gate_callee (f := 61) rfl ?_); refine zG (some 7) Tryz.func61 #[.pointer (some ⟨g, 0, none⟩), .int .i64 14] ?_; (with_reducible refine (spec_l1Cur_pick.calls g s0_0 t142 t143 14 t144 t145 t146 w0 _ ?side1 ?side2 A3.out).mono ?_); (case side1 => exact zI61 HI0); (case side2 => exact zY61 HB); rintro e w23 ⟨rfl, hi, hb, hk⟩; refine ⟨_, rfl, ?_⟩; have n0_ := Aside0.mk (Kd.R_mono (Kd.R_keep (IsS61.apart (show IsS61 w0 _ g s0_0 t142 t143 from (zI61 HI0)) (zs HO141) (by decide)) hk (fun _ h => h.2)) (fun _ h => h.1)); replace HK := zKt HK hk; replace HB := Aside0.mk hb; replace HI0 := Aside0.mk hi; clear HO141; have HO141 := n0_; clear n0_; clear hb hk hi; obtain ⟨Ao24, co24, eo24⟩ := Kd.R_slice HO141.out; subst eo24; have p154 : 0 ≤ (0 : Int) := zU0_3; have q154 : 0 < (t139.length : Int) := of_decide_eq_true zU0_1; obtain ⟨ad154, e154, hx154_0, hx154_1⟩ := at_T39 (Kd.R_reads' HO141.out).2.2 0 p154 q154; cases e154; have qi154 : (0 < t139.length) = True := eq_true zU0_3; (try rw [show ((0 : Int)).toNat = 0 from rfl] at hx154_0 hx154_1); (try rw [show 0 * 2 = 0 from rfl] at hx154_0 hx154_1); (try rw [Addr.add_zero'] at hx154_0 hx154_1); replace p154 := eq_true p154; replace q154 := eq_true q154) | ((with_reducible refine gate_builtin (b := .append) (xs := #[.tmp 20, .tmp 24]) rfl ?_); at_builtin; refine Kd.R_append k39 w.heap.size rfl (.tmp 20) (.tmp 24) 24 39 (.agg #[(.int .i64 0), (.int .i64 0)]) 16 rfl Tryz.underlying24 info39 rfl (by decide) zU0_3 (.slice (some ad154) t139.length co24) t139 (⟨(rd_T39 t139 0).f0, (rd_T39 t139 0).f1⟩ : S39) [.int .i64 ((rd_T39 t139 0).f0), .int .i64 ((rd_T39 t139 0).f1)] (fun _ => True) (fun _ => False) rfl rfl ?aP (fun _ hk => hk.elim) ?aF ?aO (Below.refl _ _) ?aS ?aL ?_; (case aP => exact k39_mkM _ _ _ (⟨(rd_T39 t139 0).f0, (rd_T39 t139 0).f1⟩ : S39)); (case aF => exact (fun _ _ => trivial)); (case aO => exact (zs HO141)); (case aS => exact (keep_size (w := w) (g := g) (row := none) (zKe HK))); (case aL => have := LMc21.out; omega); intro v156 w25 ho hb hg hat; rw [← Ny155.out] at ho; have n0_ := Aside0.mk (IsS61.grown ((zI61 HI0)) hg (IsS61.own_ne HI0.out HO141.out (by decide))); have n1_ := Aside0.mk (below_weaken (zY61 HB) HL.out hb); have n2_ := Aside0.mk (KeepBut.trans (zKe HK) (KeepBut.of_grown hg g) (Kd.R_base2 HO141.out)); have HO157 := Aside0.mk (ho); clear HO141; clear HI0; have HI0 := n0_; clear n0_; clear HB; have HB := n1_; clear n1_; clear HK; have HK := n2_; clear n2_; clear ho hb hg hat))
      go_ret
      exact ⟨_, zt, by (with_reducible repeat (first | apply Kd.R_alloc | apply Kd.R_drewN | apply Kd.R_drew)); exact HO157.out, (zI61 HI0), zY61 HB, zKe HK⟩
     ·rw [if_neg c21] at H
      exact absurd H zU0_4
    ·rw [if_neg c20] at H
     exact absurd H zU0_4
   ·rw [if_neg c19] at H
    have c19b0 := beq_eq_false_iff_ne.mpr c19; have c19b1 := bne_iff_ne.mpr c19; simp only [Option.some.injEq, Prod.mk.injEq] at H; obtain ⟨rfl, rfl, rfl⟩ := H
    go_enter Tryz.func36, Tryz.ntmps36
    go_wp2_with (first | ((with_reducible refine gate_callee (f := 54) rfl ?_); refine zG (some 5) Tryz.func54 #[.pointer (some ⟨g, 0, none⟩)] ?_; (with_reducible refine (spec_l1Cur_surePoles.calls k g s0_0 s0_1 s0_2 t139 t142 t143 w0 _ ?side1 ?side2 A2.out).mono ?_); (case side1 => exact zI61 HI0); (case side2 => exact zY61 HB); rintro e w26 ⟨v140, rfl, ho0, hi, hb, hk⟩; refine ⟨_, rfl, ?_⟩; have HO141 := Aside0.mk (Kd.R_lower ho0 (keep_size (w := w) (g := g) (row := none) (zKe HK))); replace HK := zKt HK hk; replace HB := Aside0.mk hb; replace HI0 := Aside0.mk hi; clear hb hk hi ho0) | ((with_reducible refine gate_callee (f := 61) rfl ?_); refine zG (some 7) Tryz.func61 #[.pointer (some ⟨g, 0, none⟩), .int .i64 14] ?_; (with_reducible refine (spec_l1Cur_pick.calls g s0_0 t142 t143 14 t144 t145 t146 w0 _ ?side1 ?side2 A3.out).mono ?_); (case side1 => exact zI61 HI0); (case side2 => exact zY61 HB); rintro e w27 ⟨rfl, hi, hb, hk⟩; refine ⟨_, rfl, ?_⟩; have n0_ := Aside0.mk (Kd.R_mono (Kd.R_keep (IsS61.apart (show IsS61 w0 _ g s0_0 t142 t143 from (zI61 HI0)) (zs HO141) (by decide)) hk (fun _ h => h.2)) (fun _ h => h.1)); replace HK := zKt HK hk; replace HB := Aside0.mk hb; replace HI0 := Aside0.mk hi; clear HO141; have HO141 := n0_; clear n0_; clear hb hk hi))
    go_ret
    exact ⟨_, zt, by (with_reducible repeat (first | apply Kd.R_alloc | apply Kd.R_drewN | apply Kd.R_drew)); exact HO141.out, (zI61 HI0), zY61 HB, zKe HK⟩


/-! ### spec_DrawDarkPlaces: function 5 -/
def spec_DrawDarkPlaces.f (k : Nat) (l0 : List Int) : Option (Int × (List (S39)) × Int) := (spec_l1Cur_lamp.f l0 0 0).bind fun bt159 => ((spec_l1Cur_poles.f k l0 bt159.2.1 bt159.2.2).bind fun bt162 => ((spec_l1Cur_among.f l0 bt162.2.1 bt162.2.2 (([0, 5, 10, 30, 500, 501, (-1)] : List Int))).bind fun bt170 => (some (bt159.1, bt162.1, bt170.1))))
theorem spec_DrawDarkPlaces.calls (k : Nat) (A0 : Option Addr) (c0 : Nat) (l0 : List Int) (r1 : Int) (r2 : List (S39)) (r3 : Int) (w : World) (hr0 : Kd.C (Kd.int .u8) w A0 l0.length l0) (hc0 : l0.length ≤ c0) (h : spec_DrawDarkPlaces.f k l0 = some (r1, r2, r3)) :
 Calls Tryz.prog 5 #[.slice A0 l0.length c0] w fun e w' => ∃ v1_ : Value, e = .returned (.tuple #[.int .i64 r1, v1_, .int .i64 r3]) ∧ Kd.R k39 39 w' w.heap.size (fun _ => True) v1_ r2 ∧ Below w.heap.size w w' := by
 have hu61 := Tryz.underlying61; have HR0 := Aside0.mk hr0; have HC0 := Aside0.mk hc0; clear hr0 hc0
 have HB := Aside0.mk (Below.refl w.heap.size w)
 have H := h; rw [spec_DrawDarkPlaces.f] at H; clear h; obtain ⟨⟨t159, t160, t161⟩, A2, H⟩ := zB H; (try dsimp only at H); obtain ⟨⟨t162, t165, t166⟩, A3, H⟩ := zB H; (try dsimp only at H)
 obtain ⟨y167, hy167⟩ : ∃ y_ : List Int, y_ = (([0, 5, 10, 30, 500, 501, (-1)] : List Int)) := ⟨_, rfl⟩
 replace H : ((spec_l1Cur_among.f l0 t165 t166 y167).bind fun bt170 => (some (t159, t162, bt170.1))) = some (r1, r2, r3) := by first | (rw [hy167]; with_reducible exact H) | (have H2_ := (Option.bind_some _ _).symm.trans H; rw [hy167]; with_reducible exact H2_) | (have H2_ := (Option.bind_some _ _).symm.trans H; with_reducible exact H2_) | with_reducible exact H | (rw [hy167]; exact H) | exact H
 have Ny167 := Aside0.mk hy167; clear hy167; obtain ⟨⟨t170, t171, t172⟩, A4, H⟩ := zB H; (try dsimp only at H); simp only [Option.some.injEq, Prod.mk.injEq] at H; obtain ⟨rfl, rfl, rfl⟩ := H
 go_enter Tryz.func5, Tryz.ntmps5
 go_wp2_with (first | ((with_reducible refine gate_dst (N := 10) rfl ?_); refine zE 10 #[.slice A0 l0.length c0, .int .i64 0, .int .u64 0] 61 ?_; intro gb158 hg w5 hbox hb; have HI158 := Aside0.mk ((show IsS61 w _ gb158 l0 0 0 from ⟨_, _, hbox, (by rw [hg]; exact (below_size (zy HB)) : w.heap.size ≤ gb158), HR0.out⟩)); have GW158 := zg HB hg; replace HB := zh HB hb; clear hb hbox hg) | ((with_reducible refine gate_callee (f := 35) rfl ?_); refine zG (some 12) Tryz.func35 #[.pointer (some ⟨gb158, 0, none⟩)] ?_; (with_reducible refine (spec_l1Cur_lamp.calls gb158 l0 0 0 t159 t160 t161 w _ ?side1 ?side2 A2.out).mono ?_); (case side1 => exact zI61 HI158); (case side2 => exact zY61 HB); rintro e w6 ⟨rfl, hi, hb, hk⟩; refine ⟨_, rfl, ?_⟩; replace HB := Aside0.mk hb; replace HI158 := Aside0.mk hi; clear hb hk hi) | ((with_reducible refine gate_callee (f := 36) rfl ?_); refine zG (some 14) Tryz.func36 #[.pointer (some ⟨gb158, 0, none⟩)] ?_; (with_reducible refine (spec_l1Cur_poles.calls k gb158 l0 t160 t161 t162 t165 t166 w _ ?side1 ?side2 A3.out).mono ?_); (case side1 => exact zI61 HI158); (case side2 => exact zY61 HB); rintro e w7 ⟨v163, rfl, ho0, hi, hb, hk⟩; refine ⟨_, rfl, ?_⟩; have HO164 := Aside0.mk (Kd.R_lower ho0 (below_size (zY61 HB))); replace HB := Aside0.mk hb; replace HI158 := Aside0.mk hi; clear hb hk hi ho0) | ((with_reducible refine gate_dst (N := 18) rfl ?_); refine Kd.R_lit (Kd.int .i64) _ 3 ?hg (N := 18) ?hd (xs := ([0, 5, 10, 30, 500, 501, (-1)] : List Int)) (inner := [.int .i64 0, .int .i64 5, .int .i64 10, .int .i64 30, .int .i64 500, .int .i64 501, .int .i64 (-1)]) (ok := fun _ => True) (okp := fun _ => True) ?hr ?hp (fun _ hk => hk) trivial (Below.refl _ _) (Nat.le_refl _) zU0_4 ?_; (case hd => rfl); (case hg => rfl); (case hr => first | (go_simp; done) | (go_simp; rfl)); (case hp => exact (Reps.one (show Kd.M (Kd.int .i64) _ _ _ 0 [.int .i64 0] from rfl) (Reps.one (show Kd.M (Kd.int .i64) _ _ _ 5 [.int .i64 5] from rfl) (Reps.one (show Kd.M (Kd.int .i64) _ _ _ 10 [.int .i64 10] from rfl) (Reps.one (show Kd.M (Kd.int .i64) _ _ _ 30 [.int .i64 30] from rfl) (Reps.one (show Kd.M (Kd.int .i64) _ _ _ 500 [.int .i64 500] from rfl) (Reps.one (show Kd.M (Kd.int .i64) _ _ _ 501 [.int .i64 501] from rfl) (Reps.one (show Kd.M (Kd.int .i64) _ _ _ (-1) [.int .i64 (-1)] from rfl) (Reps.none _ _))))))))); intro v168 w8 ho9 hb hg_ hnew_; clear hg_ hnew_; (first | rw [← Ny167.out] at ho9 | (simp only [Int.reduceToNat] at ho9; rw [← Ny167.out] at ho9)); have HO169 := Aside0.mk (Kd.R_lower ho9 (below_size (zY61 HB))); replace HO164 := zo HO164 hb; replace HI158 := zJ61 HI158 hb; replace HB := zH61 HB hb; clear hb ho9; obtain ⟨Ao10, co10, eo10⟩ := Kd.R_slice HO169.out; subst eo10) | ((with_reducible refine gate_callee (f := 37) rfl ?_); refine zG (some 19) Tryz.func37 #[.pointer (some ⟨gb158, 0, none⟩), .slice Ao10 y167.length co10] ?_; (with_reducible refine (spec_l1Cur_among.calls gb158 l0 t165 t166 _ _ y167 t170 t171 t172 w _ ?side1 ?side2 ?side3 ?side4 ?side5 A4.out).mono ?_); (case side1 => exact zI61 HI158); (case side2 => exact zY61 HB); (case side3 => repeat (first | exact (Kd.R_reads' HO169.out).2.2 | (with_reducible refine Kd.C_alloc ?_ _) | (with_reducible refine Kd.C_drewN ?_ _) | (with_reducible refine Kd.C_drew ?_))); (case side4 => exact (Kd.R_reads' HO169.out).2.1); (case side5 => exact far_slice (IsS61.own_ne HI158.out HO169.out (by decide))); rintro e w11 ⟨rfl, hi, hb, hk⟩; refine ⟨_, rfl, ?_⟩; have n0_ := Aside0.mk (Kd.R_mono (Kd.R_keep (IsS61.apart (show IsS61 w _ gb158 l0 t165 t166 from (zI61 HI158)) (zs HO164) (by decide)) hk (fun _ h => h.2)) (fun _ h => h.1)); have n1_ := Aside0.mk (Kd.R_mono (Kd.R_keep (IsS61.apart (show IsS61 w _ gb158 l0 t165 t166 from (zI61 HI158)) (zs HO169) (by decide)) hk (fun _ h => h.2)) (fun _ h => h.1)); replace HB := Aside0.mk hb; replace HI158 := Aside0.mk hi; clear HO164; have HO164 := n0_; clear n0_; clear HO169; have HO169 := n1_; clear n1_; clear hb hk hi))
 go_ret3
 exact ⟨_, zt, by (with_reducible repeat (first | apply Kd.R_alloc | apply Kd.R_drewN | apply Kd.R_drew)); exact HO164.out, zY61 HB⟩


/-! ### impl_within: function 38 -/
def impl_within.f (a0 : Int) (a1 : Int) (a2 : Int) : Option (Bool) := if a0 ≥ a1 then (some (decide (a0 ≤ a2))) else (some false)
theorem impl_within.calls (a0 : Int) (a1 : Int) (a2 : Int) (r : Bool) (w : World) (h : impl_within.f a0 a1 a2 = some r) :
 Calls Tryz.prog 38 #[.int .i64 a0, .int .i64 a1, .int .i64 a2] w fun e w' => e = .returned (.bool r) ∧ Drawn0 w w' := by
 have H := h; rw [impl_within.f] at H; clear h
 by_cases c4 : a0 ≥ a1
 ·rw [if_pos c4] at H
  have c4b0 := decide_eq_true c4; clear c4
  obtain rfl := Option.some.inj H
  go_enter Tryz.func38, Tryz.ntmps38
  go_wp2
  go_ret
  exact ⟨by first | rfl | (simp; done) | (simp [*]; done), by repeat (first | exact Drawn0.refl _ | apply Drawn0.step)⟩
 ·rw [if_neg c4] at H
  have c4b0 := decide_eq_false c4; clear c4
  obtain rfl := Option.some.inj H
  go_enter Tryz.func38, Tryz.ntmps38
  go_wp2
  go_ret
  exact ⟨by first | rfl | (simp; done) | (simp [*]; done), by repeat (first | exact Drawn0.refl _ | apply Drawn0.step)⟩


/-! ### impl_isLamp: function 64 -/
def impl_isLamp.f (a0 : Int) : Option (Bool) := (impl_within.f a0 2 200).bind fun t173 => (some t173)
theorem impl_isLamp.calls (a0 : Int) (r : Bool) (w : World) (h : impl_isLamp.f a0 = some r) :
 Calls Tryz.prog 64 #[.int .i64 a0] w fun e w' => e = .returned (.bool r) ∧ Drawn0 w w' := by
 have H := h; rw [impl_isLamp.f] at H; clear h; obtain ⟨t173, A2, H⟩ := zB H; (try dsimp only at H)
 obtain rfl := Option.some.inj H
 go_enter Tryz.func64, Tryz.ntmps64
 go_wp2_with (first | ((with_reducible refine gate_callee (f := 38) rfl ?_); refine zG (some 4) Tryz.func38 #[.int .i64 a0, .int .i64 2, .int .i64 200] ?_; (with_reducible refine (impl_within.calls a0 2 200 t173 _ A2.out).mono ?_); rintro e w' ⟨rfl, ⟨nd, rfl⟩⟩; refine ⟨_, rfl, ?_⟩))
 go_ret
 exact ⟨by first | rfl | (simp; done) | (simp [*]; done), by repeat (first | exact Drawn0.refl _ | apply Drawn0.step)⟩


/-! ### impl_isPlace: function 80 -/
def impl_isPlace.f (a0 : Int) : Option (Bool) := (impl_within.f a0 1 500).bind fun t174 => (some t174)
theorem impl_isPlace.calls (a0 : Int) (r : Bool) (w : World) (h : impl_isPlace.f a0 = some r) :
 Calls Tryz.prog 80 #[.int .i64 a0] w fun e w' => e = .returned (.bool r) ∧ Drawn0 w w' := by
 have H := h; rw [impl_isPlace.f] at H; clear h; obtain ⟨t174, A2, H⟩ := zB H; (try dsimp only at H)
 obtain rfl := Option.some.inj H
 go_enter Tryz.func80, Tryz.ntmps80
 go_wp2_with (first | ((with_reducible refine gate_callee (f := 38) rfl ?_); refine zG (some 4) Tryz.func38 #[.int .i64 a0, .int .i64 1, .int .i64 500] ?_; (with_reducible refine (impl_within.calls a0 1 500 t174 _ A2.out).mono ?_); rintro e w' ⟨rfl, ⟨nd, rfl⟩⟩; refine ⟨_, rfl, ?_⟩))
 go_ret
 exact ⟨by first | rfl | (simp; done) | (simp [*]; done), by repeat (first | exact Drawn0.refl _ | apply Drawn0.step)⟩


/-! ### impl_isHigh: function 81 -/
def impl_isHigh.f (a0 : Int) : Option (Bool) := (impl_within.f a0 1 200).bind fun t175 => (some t175)
theorem impl_isHigh.calls (a0 : Int) (r : Bool) (w : World) (h : impl_isHigh.f a0 = some r) :
 Calls Tryz.prog 81 #[.int .i64 a0] w fun e w' => e = .returned (.bool r) ∧ Drawn0 w w' := by
 have H := h; rw [impl_isHigh.f] at H; clear h; obtain ⟨t175, A2, H⟩ := zB H; (try dsimp only at H)
 obtain rfl := Option.some.inj H
 go_enter Tryz.func81, Tryz.ntmps81
 go_wp2_with (first | ((with_reducible refine gate_callee (f := 38) rfl ?_); refine zG (some 4) Tryz.func38 #[.int .i64 a0, .int .i64 1, .int .i64 200] ?_; (with_reducible refine (impl_within.calls a0 1 200 t175 _ A2.out).mono ?_); rintro e w' ⟨rfl, ⟨nd, rfl⟩⟩; refine ⟨_, rfl, ?_⟩))
 go_ret
 exact ⟨by first | rfl | (simp; done) | (simp [*]; done), by repeat (first | exact Drawn0.refl _ | apply Drawn0.step)⟩


/-! ### impl_isPole: function 65 -/
def impl_isPole.f (a0_0 : Int) (a0_1 : Int) : Option (Bool) := (impl_isPlace.f a0_0).bind fun t177 => (if t177 = true then ((impl_isHigh.f a0_1).bind fun t178 => (some t178)) else (some false))
theorem impl_isPole.calls (a0_0 : Int) (a0_1 : Int) (r : Bool) (w : World) (h : impl_isPole.f a0_0 a0_1 = some r) :
 Calls Tryz.prog 65 #[.agg #[.int .i64 a0_0, .int .i64 a0_1]] w fun e w' => e = .returned (.bool r) ∧ Below w.heap.size w w' := by
 have hu39 := Tryz.underlying39
 have HB := Aside0.mk (Below.refl w.heap.size w)
 have H := h; rw [impl_isPole.f] at H; clear h; obtain ⟨t177, A2, H⟩ := zB H; (try dsimp only at H)
 by_cases c3 : t177 = true
 ·subst c3
  rw [if_pos rfl] at H; obtain ⟨t178, A4, H⟩ := zB H; (try dsimp only at H)
  obtain rfl := Option.some.inj H
  go_enter Tryz.func65, Tryz.ntmps65
  go_wp2_with (first | ((with_reducible refine gate_dst (N := 1) rfl ?_); refine zE 1 #[.int .i64 a0_0, .int .i64 a0_1] 39 ?_; intro gb176 hg w5 hbox hb; have BK176 := Aside0.mk (hbox); have GW176 := zg HB hg; replace HB := zh HB hb; clear hb hbox hg; obtain ⟨_, _, _, _⟩ := zc2 BK176) | ((with_reducible refine gate_callee (f := 80) rfl ?_); refine zG (some 5) Tryz.func80 #[.int .i64 a0_0] ?_; (with_reducible refine (impl_isPlace.calls a0_0 true _ A2.out).mono ?_); rintro e w' ⟨rfl, ⟨nd, rfl⟩⟩; refine ⟨_, rfl, ?_⟩) | (go_at_call 81; (with_reducible refine (impl_isHigh.calls a0_1 t178 _ A4.out).mono ?_); rintro e w' ⟨rfl, ⟨nd, rfl⟩⟩))
  go_ret
  exact ⟨zt, zy HB⟩
 ·replace c3 := Bool.eq_false_iff.mpr c3
  subst c3; rw [if_neg (show ¬ (false = true) by decide)] at H
  obtain rfl := Option.some.inj H
  go_enter Tryz.func65, Tryz.ntmps65
  go_wp2_with (first | ((with_reducible refine gate_dst (N := 1) rfl ?_); refine zE 1 #[.int .i64 a0_0, .int .i64 a0_1] 39 ?_; intro gb176 hg w7 hbox hb; have BK176 := Aside0.mk (hbox); have GW176 := zg HB hg; replace HB := zh HB hb; clear hb hbox hg; obtain ⟨_, _, _, _⟩ := zc2 BK176) | ((with_reducible refine gate_callee (f := 80) rfl ?_); refine zG (some 5) Tryz.func80 #[.int .i64 a0_0] ?_; (with_reducible refine (impl_isPlace.calls a0_0 false _ A2.out).mono ?_); rintro e w' ⟨rfl, ⟨nd, rfl⟩⟩; refine ⟨_, rfl, ?_⟩))
  go_ret
  exact ⟨zt, zy HB⟩


/-! ### impl_isPoleOf: function 44 -/
def impl_isPoleOf.f (a0 : Int) (a1_0 : Int) (a1_1 : Int) : Option (Bool) := (impl_isLamp.f a0).bind fun t180 => (if t180 = true then ((impl_isPole.f a1_0 a1_1).bind fun t181 => (if t181 = true then (some (decide (a1_1 < a0))) else (some false))) else (some false))
theorem impl_isPoleOf.calls (a0 : Int) (a1_0 : Int) (a1_1 : Int) (r : Bool) (w : World) (h : impl_isPoleOf.f a0 a1_0 a1_1 = some r) :
 Calls Tryz.prog 44 #[.int .i64 a0, .agg #[.int .i64 a1_0, .int .i64 a1_1]] w fun e w' => e = .returned (.bool r) ∧ Below w.heap.size w w' := by
 have hu39 := Tryz.underlying39
 have HB := Aside0.mk (Below.refl w.heap.size w)
 have H := h; rw [impl_isPoleOf.f] at H; clear h; obtain ⟨t180, A3, H⟩ := zB H; (try dsimp only at H)
 by_cases c4 : t180 = true
 ·subst c4
  rw [if_pos rfl] at H; obtain ⟨t181, A5, H⟩ := zB H; (try dsimp only at H)
  by_cases c6 : t181 = true
  ·subst c6
   rw [if_pos rfl] at H
   obtain rfl := Option.some.inj H
   go_enter Tryz.func44, Tryz.ntmps44
   go_wp2_with (first | ((with_reducible refine gate_dst (N := 3) rfl ?_); refine zE 3 #[.int .i64 a1_0, .int .i64 a1_1] 39 ?_; intro gb179 hg w7 hbox hb; have BK179 := Aside0.mk (hbox); have GW179 := zg HB hg; replace HB := zh HB hb; clear hb hbox hg) | ((with_reducible refine gate_callee (f := 64) rfl ?_); refine zG (some 6) Tryz.func64 #[.int .i64 a0] ?_; (with_reducible refine (impl_isLamp.calls a0 true _ A3.out).mono ?_); rintro e w' ⟨rfl, ⟨nd, rfl⟩⟩; refine ⟨_, rfl, ?_⟩; obtain ⟨_, _, _, _⟩ := zc2 BK179) | (go_at_call 65; (with_reducible refine (impl_isPole.calls a1_0 a1_1 true _ A5.out).mono ?_); rintro e w9 ⟨rfl, hb⟩; replace BK179 := zb BK179 hb; replace HB := zh HB hb; clear hb; obtain ⟨_, _, _, _⟩ := zc2 BK179))
   go_ret
   exact ⟨zt, zy HB⟩
  ·replace c6 := Bool.eq_false_iff.mpr c6
   subst c6; rw [if_neg (show ¬ (false = true) by decide)] at H
   obtain rfl := Option.some.inj H
   go_enter Tryz.func44, Tryz.ntmps44
   go_wp2_with (first | ((with_reducible refine gate_dst (N := 3) rfl ?_); refine zE 3 #[.int .i64 a1_0, .int .i64 a1_1] 39 ?_; intro gb179 hg w11 hbox hb; have BK179 := Aside0.mk (hbox); have GW179 := zg HB hg; replace HB := zh HB hb; clear hb hbox hg) | ((with_reducible refine gate_callee (f := 64) rfl ?_); refine zG (some 6) Tryz.func64 #[.int .i64 a0] ?_; (with_reducible refine (impl_isLamp.calls a0 true _ A3.out).mono ?_); rintro e w' ⟨rfl, ⟨nd, rfl⟩⟩; refine ⟨_, rfl, ?_⟩; obtain ⟨_, _, _, _⟩ := zc2 BK179) | (go_at_call 65; (with_reducible refine (impl_isPole.calls a1_0 a1_1 false _ A5.out).mono ?_); rintro e w13 ⟨rfl, hb⟩; replace BK179 := zb BK179 hb; replace HB := zh HB hb; clear hb))
   go_ret
   exact ⟨zt, zy HB⟩
 ·replace c4 := Bool.eq_false_iff.mpr c4
  subst c4; rw [if_neg (show ¬ (false = true) by decide)] at H
  obtain rfl := Option.some.inj H
  go_enter Tryz.func44, Tryz.ntmps44
  go_wp2_with (first | ((with_reducible refine gate_dst (N := 3) rfl ?_); refine zE 3 #[.int .i64 a1_0, .int .i64 a1_1] 39 ?_; intro gb179 hg w14 hbox hb; have BK179 := Aside0.mk (hbox); have GW179 := zg HB hg; replace HB := zh HB hb; clear hb hbox hg) | ((with_reducible refine gate_callee (f := 64) rfl ?_); refine zG (some 6) Tryz.func64 #[.int .i64 a0] ?_; (with_reducible refine (impl_isLamp.calls a0 false _ A3.out).mono ?_); rintro e w' ⟨rfl, ⟨nd, rfl⟩⟩; refine ⟨_, rfl, ?_⟩))
  go_ret
  exact ⟨zt, zy HB⟩


/-! ### impl_ArePoles: function 15 -/
def impl_ArePoles.l0 : Nat → Int → List (S39) → List (S39) → Int → Int → Option (Bool)
 | 0, _, _, _, _, _ => none
 | k + 1, x0, x1, x7, x8, x9 => if x9 < x8 then (if 0 ≤ x9 then (if x9 < (x7.length : Int) then ((impl_isPoleOf.f x0 ((rd_T39 x7 x9).f0) ((rd_T39 x7 x9).f1)).bind fun t184 => (if t184 = true then (if x9 > 0 then (if 0 ≤ (wrap64 (x9 - 1)) then (if (wrap64 (x9 - 1)) < (x1.length : Int) then (if ((rd_T39 x1 (wrap64 (x9 - 1))).f0) ≥ ((rd_T39 x7 x9).f0) then (some false) else (impl_ArePoles.l0 k x0 x1 x7 x8 (wrap64 (x9 + 1)))) else (none)) else (none)) else (impl_ArePoles.l0 k x0 x1 x7 x8 (wrap64 (x9 + 1)))) else (some false))) else (none)) else (none)) else ((impl_within.f (x1.length : Int) 1 6).bind fun t186 => (some t186))
def impl_ArePoles.f (k : Nat) (a0 : Int) (l1 : List (S39)) : Option (Bool) := impl_ArePoles.l0 k a0 l1 l1 (l1.length : Int) 0
def impl_ArePoles.T4 : Bool × List (List Nat × List Nat) := (true, [([], []), ([], []), ([0, 1], [0, 1]), ([2], [2]), ([3, 2], [3]), ([4], [4]), ([5, 4], [4, 5]), ([6, 4, 4], [4, 6]), ([7], [7]), ([7], [7]), ([9, 7], [7, 9]), ([8, 10, 7], [7, 8, 10]), ([11, 7], [7, 11]), ([12, 7], [7, 12]), ([7], [7]), ([14, 7], [7, 14]), ([13, 15, 7], [7, 13, 15]), ([7, 16, 4], [4, 7, 16]), ([4, 17], [4, 17])])
def impl_ArePoles.B4 : List Nat := [0, 0, 3, 7, 15, 31, 63, 127, 255, 255, 767, 2047, 4095, 8191, 255, 16639, 65535, 131071, 262143]
theorem impl_ArePoles.tab4 : rtab .any (opsOf Tryz.f15 4) = impl_ArePoles.T4 := by kernel_rfl
theorem impl_ArePoles.bits4 : waitsOk impl_ArePoles.T4.2 impl_ArePoles.B4 = true := by kernel_rfl
theorem impl_ArePoles.calls (k : Nat) (a0 : Int) (A1 : Option Addr) (c1 : Nat) (l1 : List (S39)) (r : Bool) (w : World) (hr1 : Kd.C k39 w A1 l1.length l1) (hc1 : l1.length ≤ c1) (h : impl_ArePoles.f k a0 l1 = some r) :
 Calls Tryz.prog 15 #[.int .i64 a0, .slice A1 l1.length c1] w fun e w' => e = .returned (.bool r) ∧ Below w.heap.size w w' := by
 have hu39 := Tryz.underlying39; have HR1 := Aside0.mk hr1; have HC1 := Aside0.mk hc1; clear hr1 hc1
 have HB := Aside0.mk (Below.refl w.heap.size w)
 have H := h; rw [impl_ArePoles.f] at H; clear h; have H' := Aside0.mk H; clear H
 go_enter Tryz.func15, Tryz.ntmps15
 go_wp2
 go_loopg [9] k (fun kq v9 w' => ∃ (x9_1 : Int), v9 = .int .i64 x9_1 ∧ Aside0 (impl_ArePoles.l0 kq a0 l1 l1 (l1.length : Int) x9_1 = some r) ∧ Aside0 (kq ≤ k) ∧ Aside0 (Below w.heap.size w w'))
 case atStart => exact ⟨(0), zu, H', ⟨Nat.le_refl _⟩, ⟨zy HB⟩⟩
 case round =>
  clear H'
  obtain ⟨x9_1, rfl, HA, HK1, HB⟩ := hrel
  cases gk with
  | zero => exact absurd HA.out (by simp [impl_ArePoles.l0])
  | succ k1 =>
   have H := HA.out; clear HA; simp only [impl_ArePoles.l0] at H
   by_cases c3 : x9_1 < (l1.length : Int)
   ·rw [if_pos c3] at H
    have c3b0 := decide_eq_true c3; clear c3
    by_cases c4 : 0 ≤ x9_1
    ·rw [if_pos c4] at H
     have c4b0 := decide_eq_true c4; clear c4
     by_cases c5 : x9_1 < (l1.length : Int)
     ·rw [if_pos c5] at H
      have c5b0 := decide_eq_true c5; clear c5; obtain ⟨t184, A6, H⟩ := zB H; (try dsimp only at H)
      by_cases c7 : t184 = true
      ·subst c7
       rw [if_pos rfl] at H
       by_cases c8 : x9_1 > 0
       ·rw [if_pos c8] at H
        have c8b0 := decide_eq_true c8; clear c8
        obtain ⟨ji9, hji9⟩ : ∃ j_ : Int, (wrap64 (x9_1 - 1)) = j_ := ⟨_, rfl⟩
        replace H : (if 0 ≤ (ji9) then (if (ji9) < (l1.length : Int) then (if ((rd_T39 l1 (ji9)).f0) ≥ ((rd_T39 l1 x9_1).f0) then (some false) else (impl_ArePoles.l0 k1 a0 l1 l1 (l1.length : Int) (wrap64 (x9_1 + 1)))) else (none)) else (none)) = some r := by first | (rw [hji9] at H; exact H) | (simp only [hji9] at H ⊢; exact H)
        (try rw [hji9] at A6)
        have hji9w : (IntKind.i64.wrap (x9_1 - 1)) = ji9 := (i64_w _).trans hji9
        by_cases c10 : 0 ≤ (ji9)
        ·rw [if_pos c10] at H
         have c10b0 := decide_eq_true c10; clear c10
         by_cases c11 : (ji9) < (l1.length : Int)
         ·rw [if_pos c11] at H
          have c11b0 := decide_eq_true c11; clear c11
          by_cases c12 : ((rd_T39 l1 (ji9)).f0) ≥ ((rd_T39 l1 x9_1).f0)
          ·rw [if_pos c12] at H
           have c12b0 := decide_eq_true c12; clear c12
           obtain rfl := Option.some.inj H
           have p182 : 0 ≤ (x9_1 : Int) := of_decide_eq_true zU0_1
           have q182 : x9_1 < (l1.length : Int) := of_decide_eq_true zU0_1
           obtain ⟨ad182, e182, hx182_0, hx182_1⟩ := at_T39 HR1.out x9_1 p182 q182
           cases e182
           replace hx182_0 := (HB.out.cell (World.block_lt_of_cell? w _ hx182_0)).trans hx182_0
           replace hx182_1 := (HB.out.cell (World.block_lt_of_cell? w _ hx182_1)).trans hx182_1
           replace p182 := eq_true p182; replace q182 := eq_true q182
           try go_wp2_with (first | ((with_reducible refine gate_dst (N := 6) rfl ?_); refine zE 6 #[.int .i64 0, .int .i64 0] 39 ?_; intro gb183 hg w13 hbox hb; have BK183 := Aside0.mk (hbox); have GW183 := zg HB hg; replace HB := zh HB hb; clear hb hbox hg; obtain ⟨_, _, _, _⟩ := zc2 BK183))
           have n0_ : Aside0 (((w13.setCell ⟨gb183, 0, none⟩ (.int .i64 ((rd_T39 l1 x9_1).f0))).setCell ⟨gb183, 1, none⟩ (.int .i64 ((rd_T39 l1 x9_1).f1))).heap[gb183]? = some (.cells #[.int .i64 ((rd_T39 l1 x9_1).f0), .int .i64 ((rd_T39 l1 x9_1).f1)] 39 (0, 0))) := ⟨zw BK183⟩
           have n1_ : Aside0 (Below w.heap.size w ((w13.setCell ⟨gb183, 0, none⟩ (.int .i64 ((rd_T39 l1 x9_1).f0))).setCell ⟨gb183, 1, none⟩ (.int .i64 ((rd_T39 l1 x9_1).f1)))) := ⟨zy HB⟩
           (try clear BK183)
           (try clear HB)
           generalize ((w13.setCell ⟨gb183, 0, none⟩ (.int .i64 ((rd_T39 l1 x9_1).f0))).setCell ⟨gb183, 1, none⟩ (.int .i64 ((rd_T39 l1 x9_1).f1))) = w15 at n0_ n1_ ⊢
           have BK183 := n0_; have HB := n1_; clear n0_ n1_; replace BK183 := Aside0.mk (blk_drew BK183.out); replace HB := Aside0.mk (below_drew1 HB.out)
           have p185 : 0 ≤ ((ji9) : Int) := of_decide_eq_true zU0_1
           have q185 : (ji9) < (l1.length : Int) := of_decide_eq_true zU0_1
           obtain ⟨ad185, e185, hx185_0, hx185_1⟩ := at_T39 HR1.out (ji9) p185 q185
           have hw185_1 := hx185_1; have hw185_0 := hx185_0
           obtain rfl : ad182 = ad185 := (by injection e185)
           replace hx185_0 := (HB.out.cell (World.block_lt_of_cell? w _ hx185_0)).trans hx185_0
           replace hx185_1 := (HB.out.cell (World.block_lt_of_cell? w _ hx185_1)).trans hx185_1
           replace p185 := eq_true p185; replace q185 := eq_true q185
           refine start_ (n := 19) (S := fun w' => w'.cell? ⟨gb183, 0, none⟩ = some (.int .i64 ((rd_T39 l1 x9_1).f0)) ∧ w'.cell? ⟨gb183, 1, none⟩ = some (.int .i64 ((rd_T39 l1 x9_1).f1)) ∧ w'.cell? (ad182.add (((ji9)).toNat * 2)) = some (.int .i64 ((rd_T39 l1 (ji9)).f0)) ∧ w'.cell? ⟨(ad182.add (((ji9)).toNat * 2)).block, (ad182.add (((ji9)).toNat * 2)).off + 1, none⟩ = some (.int .i64 ((rd_T39 l1 (ji9)).f1))) (ds := []) #[false, false, false, false, false, false, false, false, false, false, false, false, false, false, false, false, false, false, false] (by kernel_rfl) rfl rfl ⟨zq0 BK183 0, zq0 BK183 1, ((HB.out.cell (World.block_lt_of_cell? w _ hw185_0)).trans hw185_0), ((HB.out.cell (World.block_lt_of_cell? w _ hw185_1)).trans hw185_1)⟩ (fun hHeld => ?_); refine with_tabW impl_ArePoles.tab4 impl_ArePoles.bits4 (fun HT_ HW_ => ?_)
           generalize w15.drew = w16 at BK183 HB hx185_0 hx185_1 hHeld ⊢
           refine zA 0 14 HT_ ?_
           refine zT 1 15 HT_ HW_ hHeld ?_
           refine zO 2 (some 16) HT_ (fun K hK => ?_)
           refine goes_ Tryz.func44 (by kernel_rfl) rfl #[.int .i64 a0, .agg #[.int .i64 ((rd_T39 l1 x9_1).f0), .int .i64 ((rd_T39 l1 x9_1).f1)]] (by rfl) rfl rfl zU0_0 ?_
           with_reducible refine (impl_isPoleOf.calls a0 ((rd_T39 l1 x9_1).f0) ((rd_T39 l1 x9_1).f1) true _ A6.out).mono ?_
           rintro e w17 ⟨rfl, hb⟩
           refine ⟨_, rfl, ?_⟩
           replace BK183 := zb BK183 hb; replace HB := zh HB hb
           (try clear hb)
           (try clear hb2)
           (try clear hk)
           (try clear hi)
           refine hK.out _ _ ⟨zq0 BK183 0, zq0 BK183 1, ((HB.out.cell (World.block_lt_of_cell? w _ hw185_0)).trans hw185_0), ((HB.out.cell (World.block_lt_of_cell? w _ hw185_1)).trans hw185_1)⟩ (fun hHeld => ?_)
           clear hK K
           refine zN 16 ?_
           refine zA 3 17 HT_ ?_
           refine zA 4 18 HT_ ?_
           refine zA 5 19 HT_ ?_
           refine zA 6 20 HT_ ?_
           refine zA 7 21 HT_ ?_
           refine zA 8 22 HT_ ?_
           refine zA 9 23 HT_ ?_
           refine zA 10 24 HT_ ?_
           refine zA 11 25 HT_ ?_
           refine zA 12 26 HT_ ?_
           refine zA 14 28 HT_ ?_
           refine zT 13 27 HT_ HW_ hHeld ?_
           refine zT 15 29 HT_ HW_ hHeld ?_
           refine zA 16 30 HT_ ?_
           refine zA 17 31 HT_ ?_
           refine zA 18 32 HT_ ?_
           refine done_ (done_of HT_.out (by kernel_rfl)) ?_
           try go_wp2
           go_ret
           exact ⟨by first | rfl | (simp [errW_none, errW_some] <;> rfl) | (simp only [← hji9]; first | rfl | (simp [errW_none, errW_some] <;> rfl)) | (simp [*, errW_none, errW_some] <;> rfl), zy HB⟩
          ·rw [if_neg c12] at H
           have c12b0 := decide_eq_false c12; clear c12; have H' := Aside0.mk H; clear H
           have p182 : 0 ≤ (x9_1 : Int) := of_decide_eq_true zU0_1
           have q182 : x9_1 < (l1.length : Int) := of_decide_eq_true zU0_1
           obtain ⟨ad182, e182, hx182_0, hx182_1⟩ := at_T39 HR1.out x9_1 p182 q182
           cases e182
           replace hx182_0 := (HB.out.cell (World.block_lt_of_cell? w _ hx182_0)).trans hx182_0
           replace hx182_1 := (HB.out.cell (World.block_lt_of_cell? w _ hx182_1)).trans hx182_1
           replace p182 := eq_true p182; replace q182 := eq_true q182
           try go_wp2_with (first | ((with_reducible refine gate_dst (N := 6) rfl ?_); refine zE 6 #[.int .i64 0, .int .i64 0] 39 ?_; intro gb183 hg w18 hbox hb; have BK183 := Aside0.mk (hbox); have GW183 := zg HB hg; replace HB := zh HB hb; clear hb hbox hg; obtain ⟨_, _, _, _⟩ := zc2 BK183))
           have n0_ : Aside0 (((w18.setCell ⟨gb183, 0, none⟩ (.int .i64 ((rd_T39 l1 x9_1).f0))).setCell ⟨gb183, 1, none⟩ (.int .i64 ((rd_T39 l1 x9_1).f1))).heap[gb183]? = some (.cells #[.int .i64 ((rd_T39 l1 x9_1).f0), .int .i64 ((rd_T39 l1 x9_1).f1)] 39 (0, 0))) := ⟨zw BK183⟩
           have n1_ : Aside0 (Below w.heap.size w ((w18.setCell ⟨gb183, 0, none⟩ (.int .i64 ((rd_T39 l1 x9_1).f0))).setCell ⟨gb183, 1, none⟩ (.int .i64 ((rd_T39 l1 x9_1).f1)))) := ⟨zy HB⟩
           (try clear BK183)
           (try clear HB)
           generalize ((w18.setCell ⟨gb183, 0, none⟩ (.int .i64 ((rd_T39 l1 x9_1).f0))).setCell ⟨gb183, 1, none⟩ (.int .i64 ((rd_T39 l1 x9_1).f1))) = w20 at n0_ n1_ ⊢
           have BK183 := n0_; have HB := n1_; clear n0_ n1_; replace BK183 := Aside0.mk (blk_drew BK183.out); replace HB := Aside0.mk (below_drew1 HB.out)
           have p185 : 0 ≤ ((ji9) : Int) := of_decide_eq_true zU0_1
           have q185 : (ji9) < (l1.length : Int) := of_decide_eq_true zU0_1
           obtain ⟨ad185, e185, hx185_0, hx185_1⟩ := at_T39 HR1.out (ji9) p185 q185
           have hw185_1 := hx185_1; have hw185_0 := hx185_0
           obtain rfl : ad182 = ad185 := (by injection e185)
           replace hx185_0 := (HB.out.cell (World.block_lt_of_cell? w _ hx185_0)).trans hx185_0
           replace hx185_1 := (HB.out.cell (World.block_lt_of_cell? w _ hx185_1)).trans hx185_1
           replace p185 := eq_true p185; replace q185 := eq_true q185
           refine start_ (n := 19) (S := fun w' => w'.cell? ⟨gb183, 0, none⟩ = some (.int .i64 ((rd_T39 l1 x9_1).f0)) ∧ w'.cell? ⟨gb183, 1, none⟩ = some (.int .i64 ((rd_T39 l1 x9_1).f1)) ∧ w'.cell? (ad182.add (((ji9)).toNat * 2)) = some (.int .i64 ((rd_T39 l1 (ji9)).f0)) ∧ w'.cell? ⟨(ad182.add (((ji9)).toNat * 2)).block, (ad182.add (((ji9)).toNat * 2)).off + 1, none⟩ = some (.int .i64 ((rd_T39 l1 (ji9)).f1))) (ds := []) #[false, false, false, false, false, false, false, false, false, false, false, false, false, false, false, false, false, false, false] (by kernel_rfl) rfl rfl ⟨zq0 BK183 0, zq0 BK183 1, ((HB.out.cell (World.block_lt_of_cell? w _ hw185_0)).trans hw185_0), ((HB.out.cell (World.block_lt_of_cell? w _ hw185_1)).trans hw185_1)⟩ (fun hHeld => ?_); refine with_tabW impl_ArePoles.tab4 impl_ArePoles.bits4 (fun HT_ HW_ => ?_)
           generalize w20.drew = w21 at BK183 HB hx185_0 hx185_1 hHeld ⊢
           refine zA 0 14 HT_ ?_
           refine zT 1 15 HT_ HW_ hHeld ?_
           refine zO 2 (some 16) HT_ (fun K hK => ?_)
           refine goes_ Tryz.func44 (by kernel_rfl) rfl #[.int .i64 a0, .agg #[.int .i64 ((rd_T39 l1 x9_1).f0), .int .i64 ((rd_T39 l1 x9_1).f1)]] (by rfl) rfl rfl zU0_0 ?_
           with_reducible refine (impl_isPoleOf.calls a0 ((rd_T39 l1 x9_1).f0) ((rd_T39 l1 x9_1).f1) true _ A6.out).mono ?_
           rintro e w22 ⟨rfl, hb⟩
           refine ⟨_, rfl, ?_⟩
           replace BK183 := zb BK183 hb; replace HB := zh HB hb
           (try clear hb)
           (try clear hb2)
           (try clear hk)
           (try clear hi)
           refine hK.out _ _ ⟨zq0 BK183 0, zq0 BK183 1, ((HB.out.cell (World.block_lt_of_cell? w _ hw185_0)).trans hw185_0), ((HB.out.cell (World.block_lt_of_cell? w _ hw185_1)).trans hw185_1)⟩ (fun hHeld => ?_)
           clear hK K
           refine zN 16 ?_
           refine zA 3 17 HT_ ?_
           refine zA 4 18 HT_ ?_
           refine zA 5 19 HT_ ?_
           refine zA 6 20 HT_ ?_
           refine zA 7 21 HT_ ?_
           refine zA 8 22 HT_ ?_
           refine zA 9 23 HT_ ?_
           refine zA 10 24 HT_ ?_
           refine zA 11 25 HT_ ?_
           refine zA 12 26 HT_ ?_
           refine zA 14 28 HT_ ?_
           refine zT 13 27 HT_ HW_ hHeld ?_
           refine zT 15 29 HT_ HW_ hHeld ?_
           refine zA 16 30 HT_ ?_
           refine zA 17 31 HT_ ?_
           refine zA 18 32 HT_ ?_
           refine done_ (done_of HT_.out (by kernel_rfl)) ?_
           try go_wp2
           go_roundg k1
           case measure => have := HK1.out; omega
           case rel => exact ⟨(wrap64 (x9_1 + 1)), zu, H', ⟨by have := HK1.out; omega⟩, ⟨zy HB⟩⟩
         ·rw [if_neg c11] at H
          exact absurd H zU0_4
        ·rw [if_neg c10] at H
         exact absurd H zU0_4
       ·rw [if_neg c8] at H
        have c8b0 := decide_eq_false c8; clear c8; have H' := Aside0.mk H; clear H
        have p182 : 0 ≤ (x9_1 : Int) := of_decide_eq_true zU0_1
        have q182 : x9_1 < (l1.length : Int) := of_decide_eq_true zU0_1
        obtain ⟨ad182, e182, hx182_0, hx182_1⟩ := at_T39 HR1.out x9_1 p182 q182
        cases e182
        replace hx182_0 := (HB.out.cell (World.block_lt_of_cell? w _ hx182_0)).trans hx182_0
        replace hx182_1 := (HB.out.cell (World.block_lt_of_cell? w _ hx182_1)).trans hx182_1
        replace p182 := eq_true p182; replace q182 := eq_true q182
        try go_wp2_with (first | ((with_reducible refine gate_dst (N := 6) rfl ?_); refine zE 6 #[.int .i64 0, .int .i64 0] 39 ?_; intro gb183 hg w23 hbox hb; have BK183 := Aside0.mk (hbox); have GW183 := zg HB hg; replace HB := zh HB hb; clear hb hbox hg; obtain ⟨_, _, _, _⟩ := zc2 BK183))
        have n0_ : Aside0 (((w23.setCell ⟨gb183, 0, none⟩ (.int .i64 ((rd_T39 l1 x9_1).f0))).setCell ⟨gb183, 1, none⟩ (.int .i64 ((rd_T39 l1 x9_1).f1))).heap[gb183]? = some (.cells #[.int .i64 ((rd_T39 l1 x9_1).f0), .int .i64 ((rd_T39 l1 x9_1).f1)] 39 (0, 0))) := ⟨zw BK183⟩
        have n1_ : Aside0 (Below w.heap.size w ((w23.setCell ⟨gb183, 0, none⟩ (.int .i64 ((rd_T39 l1 x9_1).f0))).setCell ⟨gb183, 1, none⟩ (.int .i64 ((rd_T39 l1 x9_1).f1)))) := ⟨zy HB⟩
        (try clear BK183)
        (try clear HB)
        generalize ((w23.setCell ⟨gb183, 0, none⟩ (.int .i64 ((rd_T39 l1 x9_1).f0))).setCell ⟨gb183, 1, none⟩ (.int .i64 ((rd_T39 l1 x9_1).f1))) = w25 at n0_ n1_ ⊢
        have BK183 := n0_; have HB := n1_; clear n0_ n1_; replace BK183 := Aside0.mk (blk_drew BK183.out); replace HB := Aside0.mk (below_drew1 HB.out)
        refine start_ (n := 19) (S := fun w' => w'.cell? ⟨gb183, 0, none⟩ = some (.int .i64 ((rd_T39 l1 x9_1).f0)) ∧ w'.cell? ⟨gb183, 1, none⟩ = some (.int .i64 ((rd_T39 l1 x9_1).f1))) (ds := []) #[false, false, false, false, false, false, false, false, false, false, false, false, false, false, false, false, false, false, false] (by kernel_rfl) rfl rfl ⟨zq0 BK183 0, zq0 BK183 1⟩ (fun hHeld => ?_); refine with_tabW impl_ArePoles.tab4 impl_ArePoles.bits4 (fun HT_ HW_ => ?_)
        generalize w25.drew = w26 at BK183 HB hHeld ⊢
        refine zA 0 14 HT_ ?_
        refine zT 1 15 HT_ HW_ hHeld ?_
        refine zO 2 (some 16) HT_ (fun K hK => ?_)
        refine goes_ Tryz.func44 (by kernel_rfl) rfl #[.int .i64 a0, .agg #[.int .i64 ((rd_T39 l1 x9_1).f0), .int .i64 ((rd_T39 l1 x9_1).f1)]] (by rfl) rfl rfl zU0_0 ?_
        with_reducible refine (impl_isPoleOf.calls a0 ((rd_T39 l1 x9_1).f0) ((rd_T39 l1 x9_1).f1) true _ A6.out).mono ?_
        rintro e w27 ⟨rfl, hb⟩
        refine ⟨_, rfl, ?_⟩
        replace BK183 := zb BK183 hb; replace HB := zh HB hb
        (try clear hb)
        (try clear hb2)
        (try clear hk)
        (try clear hi)
        refine hK.out _ _ ⟨zq0 BK183 0, zq0 BK183 1⟩ (fun hHeld => ?_)
        clear hK K
        refine zN 16 ?_
        refine zA 3 17 HT_ ?_
        refine zA 4 18 HT_ ?_
        refine zA 5 19 HT_ ?_
        refine zA 6 20 HT_ ?_
        refine zA 7 21 HT_ ?_
        refine zAu 8 22 HT_ ?_
        refine zAu 9 23 HT_ ?_
        refine zAu 10 24 HT_ ?_
        refine zAu 11 25 HT_ ?_
        refine zAu 12 26 HT_ ?_
        refine zAu 13 27 HT_ ?_
        refine zAu 14 28 HT_ ?_
        refine zAu 15 29 HT_ ?_
        refine zAu 16 30 HT_ ?_
        refine zA 17 31 HT_ ?_
        refine zA 18 32 HT_ ?_
        refine done_ (done_of HT_.out (by kernel_rfl)) ?_
        try go_wp2
        go_roundg k1
        case measure => have := HK1.out; omega
        case rel => exact ⟨(wrap64 (x9_1 + 1)), zu, H', ⟨by have := HK1.out; omega⟩, ⟨zy HB⟩⟩
      ·replace c7 := Bool.eq_false_iff.mpr c7
       subst c7; rw [if_neg (show ¬ (false = true) by decide)] at H
       obtain rfl := Option.some.inj H
       have p182 : 0 ≤ (x9_1 : Int) := of_decide_eq_true zU0_1
       have q182 : x9_1 < (l1.length : Int) := of_decide_eq_true zU0_1
       obtain ⟨ad182, e182, hx182_0, hx182_1⟩ := at_T39 HR1.out x9_1 p182 q182
       cases e182
       replace hx182_0 := (HB.out.cell (World.block_lt_of_cell? w _ hx182_0)).trans hx182_0
       replace hx182_1 := (HB.out.cell (World.block_lt_of_cell? w _ hx182_1)).trans hx182_1
       replace p182 := eq_true p182; replace q182 := eq_true q182
       try go_wp2_with (first | ((with_reducible refine gate_dst (N := 6) rfl ?_); refine zE 6 #[.int .i64 0, .int .i64 0] 39 ?_; intro gb183 hg w28 hbox hb; have BK183 := Aside0.mk (hbox); have GW183 := zg HB hg; replace HB := zh HB hb; clear hb hbox hg; obtain ⟨_, _, _, _⟩ := zc2 BK183))
       have n0_ : Aside0 (((w28.setCell ⟨gb183, 0, none⟩ (.int .i64 ((rd_T39 l1 x9_1).f0))).setCell ⟨gb183, 1, none⟩ (.int .i64 ((rd_T39 l1 x9_1).f1))).heap[gb183]? = some (.cells #[.int .i64 ((rd_T39 l1 x9_1).f0), .int .i64 ((rd_T39 l1 x9_1).f1)] 39 (0, 0))) := ⟨zw BK183⟩
       have n1_ : Aside0 (Below w.heap.size w ((w28.setCell ⟨gb183, 0, none⟩ (.int .i64 ((rd_T39 l1 x9_1).f0))).setCell ⟨gb183, 1, none⟩ (.int .i64 ((rd_T39 l1 x9_1).f1)))) := ⟨zy HB⟩
       (try clear BK183)
       (try clear HB)
       generalize ((w28.setCell ⟨gb183, 0, none⟩ (.int .i64 ((rd_T39 l1 x9_1).f0))).setCell ⟨gb183, 1, none⟩ (.int .i64 ((rd_T39 l1 x9_1).f1))) = w30 at n0_ n1_ ⊢
       have BK183 := n0_; have HB := n1_; clear n0_ n1_; replace BK183 := Aside0.mk (blk_drew BK183.out); replace HB := Aside0.mk (below_drew1 HB.out)
       refine start_ (n := 19) (S := fun w' => w'.cell? ⟨gb183, 0, none⟩ = some (.int .i64 ((rd_T39 l1 x9_1).f0)) ∧ w'.cell? ⟨gb183, 1, none⟩ = some (.int .i64 ((rd_T39 l1 x9_1).f1))) (ds := []) #[false, false, false, false, false, false, false, false, false, false, false, false, false, false, false, false, false, false, false] (by kernel_rfl) rfl rfl ⟨zq0 BK183 0, zq0 BK183 1⟩ (fun hHeld => ?_); refine with_tabW impl_ArePoles.tab4 impl_ArePoles.bits4 (fun HT_ HW_ => ?_)
       generalize w30.drew = w31 at BK183 HB hHeld ⊢
       refine zA 0 14 HT_ ?_
       refine zT 1 15 HT_ HW_ hHeld ?_
       refine zO 2 (some 16) HT_ (fun K hK => ?_)
       refine goes_ Tryz.func44 (by kernel_rfl) rfl #[.int .i64 a0, .agg #[.int .i64 ((rd_T39 l1 x9_1).f0), .int .i64 ((rd_T39 l1 x9_1).f1)]] (by rfl) rfl rfl zU0_0 ?_
       with_reducible refine (impl_isPoleOf.calls a0 ((rd_T39 l1 x9_1).f0) ((rd_T39 l1 x9_1).f1) false _ A6.out).mono ?_
       rintro e w32 ⟨rfl, hb⟩
       refine ⟨_, rfl, ?_⟩
       replace BK183 := zb BK183 hb; replace HB := zh HB hb
       (try clear hb)
       (try clear hb2)
       (try clear hk)
       (try clear hi)
       refine hK.out _ _ ⟨zq0 BK183 0, zq0 BK183 1⟩ (fun hHeld => ?_)
       clear hK K
       refine zN 16 ?_
       refine zA 3 17 HT_ ?_
       refine zA 4 18 HT_ ?_
       refine zAu 5 19 HT_ ?_
       refine zAu 6 20 HT_ ?_
       refine zAu 7 21 HT_ ?_
       refine zAu 8 22 HT_ ?_
       refine zAu 9 23 HT_ ?_
       refine zAu 10 24 HT_ ?_
       refine zAu 11 25 HT_ ?_
       refine zAu 12 26 HT_ ?_
       refine zAu 13 27 HT_ ?_
       refine zAu 14 28 HT_ ?_
       refine zAu 15 29 HT_ ?_
       refine zAu 16 30 HT_ ?_
       refine zAu 17 31 HT_ ?_
       refine zA 18 32 HT_ ?_
       refine done_ (done_of HT_.out (by kernel_rfl)) ?_
       try go_wp2
       go_ret
       exact ⟨zt, zy HB⟩
     ·rw [if_neg c5] at H
      exact absurd H zU0_4
    ·rw [if_neg c4] at H
     exact absurd H zU0_4
   ·rw [if_neg c3] at H
    have c3b0 := decide_eq_false c3; clear c3; obtain ⟨t186, A33, H⟩ := zB H; (try dsimp only at H)
    obtain rfl := Option.some.inj H
    go_wp2_with (first | ((with_reducible refine gate_callee (f := 38) rfl ?_); refine zG (some 36) Tryz.func38 #[.int .i64 (l1.length : Int), .int .i64 1, .int .i64 6] ?_; (with_reducible refine (impl_within.calls (l1.length : Int) 1 6 t186 _ A33.out).mono ?_); rintro e w' ⟨rfl, ⟨nd, rfl⟩⟩; refine ⟨_, rfl, ?_⟩))
    go_ret
    exact ⟨zt, zy HB⟩


/-! ### impl_DarkPlaces: function 6 -/
mutual
def impl_DarkPlaces.j0 : Nat → Int → List (S39) → Int → Bool → Option (List Int × Bool)
 | 0, _, _, _, _ => none
 | k + 1, x0, x1, x2, x20 => if x20 = true then (some (([] : List Int), false)) else (impl_DarkPlaces.l0 k x0 x1 x2 (([] : List Int)) 0)
def impl_DarkPlaces.l0 : Nat → Int → List (S39) → Int → List Int → Int → Option (List Int × Bool)
 | 0, _, _, _, _, _ => none
 | k + 1, x0, x1, x2, x8, x9 => if x9 ≤ x2 then (impl_DarkPlaces.l1 k x0 x1 x2 x8 x9 x1 (x1.length : Int) 0) else (some (x8, true))
def impl_DarkPlaces.l1 : Nat → Int → List (S39) → Int → List Int → Int → List (S39) → Int → Int → Option (List Int × Bool)
 | 0, _, _, _, _, _, _, _, _ => none
 | k + 1, x0, x1, x2, x8, x9, x27, x28, x29 => if x29 < x28 then (if 0 ≤ x29 then (if x29 < (x27.length : Int) then (if x9 > ((rd_T39 x27 x29).f0) then (if (wrap64 (x9 * (wrap64 (x0 - ((rd_T39 x27 x29).f1))))) ≤ (wrap64 (((rd_T39 x27 x29).f0) * x0)) then (if x8.length < 17592186044416 then (impl_DarkPlaces.l0 k x0 x1 x2 (x8 ++ [x9]) (wrap64 (x9 + 1))) else (none)) else (impl_DarkPlaces.l1 k x0 x1 x2 x8 x9 x27 x28 (wrap64 (x29 + 1)))) else (impl_DarkPlaces.l1 k x0 x1 x2 x8 x9 x27 x28 (wrap64 (x29 + 1)))) else (none)) else (none)) else (impl_DarkPlaces.l0 k x0 x1 x2 x8 (wrap64 (x9 + 1)))
end
def impl_DarkPlaces.f (k : Nat) (a0 : Int) (l1 : List (S39)) (a2 : Int) : Option (List Int × Bool) := (impl_ArePoles.f k a0 l1).bind fun t187 => (if t187 = true then ((impl_within.f a2 0 500).bind fun t188 => (impl_DarkPlaces.j0 k a0 l1 a2 (!t188))) else (impl_DarkPlaces.j0 k a0 l1 a2 true))
theorem impl_DarkPlaces.calls (k : Nat) (a0 : Int) (A1 : Option Addr) (c1 : Nat) (l1 : List (S39)) (a2 : Int) (r1 : List Int) (r2 : Bool) (w : World) (hr1 : Kd.C k39 w A1 l1.length l1) (hc1 : l1.length ≤ c1) (h : impl_DarkPlaces.f k a0 l1 a2 = some (r1, r2)) :
 Calls Tryz.prog 6 #[.int .i64 a0, .slice A1 l1.length c1, .int .i64 a2] w fun e w' => ∃ v0_ : Value, e = .returned (.tuple #[v0_, .bool r2]) ∧ Kd.R (Kd.int .i64) 3 w' w.heap.size (fun _ => True) v0_ r1 ∧ Below w.heap.size w w' := by
 have hu39 := Tryz.underlying39; have HR1 := Aside0.mk hr1; have HC1 := Aside0.mk hc1; clear hr1 hc1
 have HB := Aside0.mk (Below.refl w.heap.size w)
 have H := h; rw [impl_DarkPlaces.f] at H; clear h; have HC4 := Aside0.mk H; clear H
 go_enter Tryz.func6, Tryz.ntmps6
 go_upto_region 1 with (fail)
 go_cut [20] (fun v20 wc => ∃ (kq : Nat) (x20_3 : Bool), v20 = .bool x20_3 ∧ Aside0 (impl_DarkPlaces.j0 kq a0 l1 a2 x20_3 = some (r1, r2)) ∧ Aside0 (kq ≤ k) ∧ Aside0 (Below w.heap.size w wc))
 case first =>
  have H := HC4.out; clear HC4; obtain ⟨t187, A5, H⟩ := zB H; (try dsimp only at H)
  by_cases c6 : t187 = true
  ·subst c6
   rw [if_pos rfl] at H; obtain ⟨t188, A7, H⟩ := zB H; (try dsimp only at H); have H' := Aside0.mk H; clear H
   go_wp2_with (first | ((with_reducible refine gate_callee (f := 15) rfl ?_); refine zG (some 14) Tryz.func15 #[.int .i64 a0, .slice A1 l1.length c1] ?_; (with_reducible refine (impl_ArePoles.calls k a0 _ _ l1 true _ ?side1 ?side2 A5.out).mono ?_); (case side1 => exact zC HR1 HB); (case side2 => exact HC1.out); rintro e w8 ⟨rfl, hb⟩; refine ⟨_, rfl, ?_⟩; replace HB := zh HB hb; clear hb) | (go_at_call 38; (with_reducible refine (impl_within.calls a2 0 500 t188 _ A7.out).mono ?_); rintro e w' ⟨rfl, ⟨nd, rfl⟩⟩))
   go_meet
   case rel => exact ⟨_, (!t188), zu, H', ⟨by first | omega | exact Nat.le_refl _⟩, ⟨zy HB⟩⟩
  ·replace c6 := Bool.eq_false_iff.mpr c6
   subst c6; rw [if_neg (show ¬ (false = true) by decide)] at H; have H' := Aside0.mk H; clear H
   go_wp2_with (first | ((with_reducible refine gate_callee (f := 15) rfl ?_); refine zG (some 14) Tryz.func15 #[.int .i64 a0, .slice A1 l1.length c1] ?_; (with_reducible refine (impl_ArePoles.calls k a0 _ _ l1 false _ ?side1 ?side2 A5.out).mono ?_); (case side1 => exact zC HR1 HB); (case side2 => exact HC1.out); rintro e w9 ⟨rfl, hb⟩; refine ⟨_, rfl, ?_⟩; replace HB := zh HB hb; clear hb))
   go_meet
   case rel => exact ⟨_, (true), zu, H', ⟨by first | omega | exact Nat.le_refl _⟩, ⟨zy HB⟩⟩
 case rest =>
  clear HC4
  obtain ⟨kq, x20_3, rfl, HA, HJ3, HB⟩ := hcut
  cases kq with
  | zero => exact absurd HA.out (by simp [impl_DarkPlaces.j0])
  | succ kj3 =>
   have H := HA.out; clear HA; simp only [impl_DarkPlaces.j0] at H
   by_cases c10 : x20_3 = true
   ·subst c10
    rw [if_pos rfl] at H; simp only [Option.some.injEq, Prod.mk.injEq] at H; obtain ⟨rfl, rfl⟩ := H
    go_wp2
    go_ret2
    exact ⟨_, zt, by first | exact Kd.R_nil _ _ _ _ _ | exact Kd.N_nil _ _ _ _ _ | exact Kd.V_nil _ _ _ _ _ | exact Kd.Q_nil _ _ _ _ _ | exact Kd.S_nil _ _ _ _ _, zy HB⟩
   ·replace c10 := Bool.eq_false_iff.mpr c10
    subst c10; rw [if_neg (show ¬ (false = true) by decide)] at H
    obtain ⟨y189, hy189⟩ : ∃ y_ : List Int, y_ = (([] : List Int)) := ⟨_, rfl⟩
    replace H : (impl_DarkPlaces.l0 kj3 a0 l1 a2 y189 0) = some (r1, r2) := by first | (rw [hy189]; with_reducible exact H) | (have H2_ := (Option.bind_some _ _).symm.trans H; rw [hy189]; with_reducible exact H2_) | (have H2_ := (Option.bind_some _ _).symm.trans H; with_reducible exact H2_) | with_reducible exact H | (rw [hy189]; exact H) | exact H
    have Ny189 := Aside0.mk hy189; clear hy189; have H' := Aside0.mk H; clear H
    go_wp2_with (first | ((with_reducible refine gate_dst (N := 21) rfl ?_); refine Kd.R_lit (Kd.int .i64) _ 3 ?hg (N := 21) ?hd (xs := ([] : List Int)) (inner := []) (ok := fun _ => True) (okp := fun _ => True) ?hr ?hp (fun _ hk => hk) trivial (Below.refl _ _) (Nat.le_refl _) zU0_4 ?_; (case hd => rfl); (case hg => rfl); (case hr => first | (go_simp; done) | (go_simp; rfl)); (case hp => exact (Reps.none _ _)); intro v190 w11 ho12 hb hg_ hnew_; clear hg_ hnew_; (first | rw [← Ny189.out] at ho12 | (simp only [Int.reduceToNat] at ho12; rw [← Ny189.out] at ho12)); have HO191 := Aside0.mk (Kd.R_lower ho12 (below_size (zy HB))); replace HB := zh HB hb; clear hb ho12))
    go_loopg [8, 9] kj3 (fun kq v8 v9 w' => ∃ (x8_2 : List Int) (x9_2 : Int), v9 = .int .i64 x9_2 ∧ Aside0 (impl_DarkPlaces.l0 kq a0 l1 a2 x8_2 x9_2 = some (r1, r2)) ∧ Aside0 (kq ≤ kj3) ∧ Aside0 (Kd.R (Kd.int .i64) 3 w' w.heap.size (fun _ => True) v8 x8_2) ∧ Aside0 (Below w.heap.size w w'))
    case atStart => exact ⟨(y189), (0), zu, H', ⟨Nat.le_refl _⟩, zp HO191, ⟨zy HB⟩⟩
    case round =>
     clear H'
     obtain ⟨x8_2, x9_2, rfl, HA, HK2, HO_8, HB⟩ := hrel
     cases gk with
     | zero => exact absurd HA.out (by simp [impl_DarkPlaces.l0])
     | succ k2 =>
      have H := HA.out; clear HA; simp only [impl_DarkPlaces.l0] at H
      by_cases c13 : x9_2 ≤ a2
      ·rw [if_pos c13] at H
       have c13b0 := decide_eq_true c13; clear c13; have H' := Aside0.mk H; clear H
       go_wp2
       go_loopg [8, 29] k2 (fun kq v8 v29 w' => ∃ (x8_3 : List Int) (x29_3 : Int), v29 = .int .i64 x29_3 ∧ Aside0 (impl_DarkPlaces.l1 kq a0 l1 a2 x8_3 x9_2 l1 (l1.length : Int) x29_3 = some (r1, r2)) ∧ Aside0 (kq ≤ k2) ∧ Aside0 (Kd.R (Kd.int .i64) 3 w' w.heap.size (fun _ => True) v8 x8_3) ∧ Aside0 (Below w.heap.size w w'))
       case atStart => exact ⟨(x8_2), (0), zu, H', ⟨Nat.le_refl _⟩, zp HO_8, ⟨zy HB⟩⟩
       case round =>
        clear H'
        obtain ⟨x8_3, x29_3, rfl, HA, HK3, HO_8, HB⟩ := hrel
        cases gk with
        | zero => exact absurd HA.out (by simp [impl_DarkPlaces.l1])
        | succ k3 =>
         have H := HA.out; clear HA; simp only [impl_DarkPlaces.l1] at H
         by_cases c14 : x29_3 < (l1.length : Int)
         ·rw [if_pos c14] at H
          have c14b0 := decide_eq_true c14; clear c14
          by_cases c15 : 0 ≤ x29_3
          ·rw [if_pos c15] at H
           have c15b0 := decide_eq_true c15; clear c15
           by_cases c16 : x29_3 < (l1.length : Int)
           ·rw [if_pos c16] at H
            have c16b0 := decide_eq_true c16; clear c16
            by_cases c17 : x9_2 > ((rd_T39 l1 x29_3).f0)
            ·rw [if_pos c17] at H
             have c17b0 := decide_eq_true c17; clear c17
             by_cases c18 : (wrap64 (x9_2 * (wrap64 (a0 - ((rd_T39 l1 x29_3).f1))))) ≤ (wrap64 (((rd_T39 l1 x29_3).f0) * a0))
             ·rw [if_pos c18] at H
              have c18b0 := decide_eq_true c18; clear c18
              by_cases c19 : x8_3.length < 17592186044416
              ·rw [if_pos c19] at H
               have LMc19 := Aside0.mk c19; clear c19
               obtain ⟨y194, hy194⟩ : ∃ y_ : List Int, y_ = (x8_3 ++ [x9_2]) := ⟨_, rfl⟩
               replace H : (impl_DarkPlaces.l0 k3 a0 l1 a2 y194 (wrap64 (x9_2 + 1))) = some (r1, r2) := by first | (rw [hy194]; with_reducible exact H) | (have H2_ := (Option.bind_some _ _).symm.trans H; rw [hy194]; with_reducible exact H2_) | (have H2_ := (Option.bind_some _ _).symm.trans H; with_reducible exact H2_) | with_reducible exact H | (rw [hy194]; exact H) | exact H
               have Ny194 := Aside0.mk hy194; clear hy194; have H' := Aside0.mk H; clear H
               have p192 : 0 ≤ (x29_3 : Int) := of_decide_eq_true zU0_1
               have q192 : x29_3 < (l1.length : Int) := of_decide_eq_true zU0_1
               obtain ⟨ad192, e192, hx192_0, hx192_1⟩ := at_T39 HR1.out x29_3 p192 q192
               cases e192
               replace hx192_0 := (HB.out.cell (World.block_lt_of_cell? w _ hx192_0)).trans hx192_0
               replace hx192_1 := (HB.out.cell (World.block_lt_of_cell? w _ hx192_1)).trans hx192_1
               replace p192 := eq_true p192; replace q192 := eq_true q192
               go_wp2_with (first | ((with_reducible refine gate_dst (N := 11) rfl ?_); refine zE 11 #[.int .i64 0, .int .i64 0] 39 ?_; intro gb193 hg w20 hbox hb; have BK193 := Aside0.mk (hbox); have GW193 := zg HB hg; replace HO_8 := zo HO_8 hb; replace HB := zh HB hb; clear hb hbox hg; obtain ⟨_, _, _, _⟩ := zc2 BK193) | ((with_reducible refine gate_builtin (b := .append) (xs := #[.tmp 50, .tmp 52]) rfl ?_); at_builtin; refine Kd.R_append (Kd.int .i64) (w0 := w) w.heap.size rfl (.tmp 50) (.tmp 52) 27 3 (.int .i64 0) 8 rfl Tryz.underlying27 info3 rfl (by decide) zU0_3 u8 x8_3 x9_2 [.int .i64 x9_2] (fun _ => True) (fun _ => False) rfl (by first | (go_simp; done) | (go_simp; rfl)) ?aP (fun _ hk => hk.elim) ?aF ?aO ?aB ?aS ?aL ?_; (case aP => exact rfl); (case aB => exact (zy HB)); (case aF => exact (fun _ _ => trivial)); (case aO => exact (zrp (Kd.R_mono (Kd.R_far (p := ⟨gb193, 1, none⟩) (Kd.R_far (p := ⟨gb193, 0, none⟩) (Kd.R_types HO_8.out BK193.out (by decide)) (fun _ hk => hk.2) (.int .i64 ((rd_T39 l1 x29_3).f0))) (fun _ hk => hk.2) (.int .i64 ((rd_T39 l1 x29_3).f1))) (fun _ hk => trivial)))); (case aS => exact (below_size (zy HB))); (case aL => have := LMc19.out; omega); intro v195 w22 ho hb hg hat; rw [← Ny194.out] at ho; have n0_ := Aside0.mk (blk_grown (g := gb193) (o := .cells #[.int .i64 ((rd_T39 l1 x29_3).f0), .int .i64 ((rd_T39 l1 x29_3).f1)] 39 (0, 0)) (zw BK193) hg (Kd.R_ne HO_8.out BK193.out (by decide))); have HO196 := Aside0.mk (ho); replace HB := Aside0.mk hb; clear HO_8; clear BK193; have BK193 := n0_; clear n0_; clear ho hb hg hat))
               go_roundg k3
               case measure => have := HJ3.out; have := HK2.out; have := HK3.out; omega
               case rel => exact ⟨(y194), (wrap64 (x9_2 + 1)), zu, H', ⟨by have := HJ3.out; have := HK2.out; have := HK3.out; omega⟩, zp HO196, ⟨zy HB⟩⟩
              ·rw [if_neg c19] at H
               exact absurd H zU0_4
             ·rw [if_neg c18] at H
              have c18b0 := decide_eq_false c18; clear c18; have H' := Aside0.mk H; clear H
              have p192 : 0 ≤ (x29_3 : Int) := of_decide_eq_true zU0_1
              have q192 : x29_3 < (l1.length : Int) := of_decide_eq_true zU0_1
              obtain ⟨ad192, e192, hx192_0, hx192_1⟩ := at_T39 HR1.out x29_3 p192 q192
              cases e192
              replace hx192_0 := (HB.out.cell (World.block_lt_of_cell? w _ hx192_0)).trans hx192_0
              replace hx192_1 := (HB.out.cell (World.block_lt_of_cell? w _ hx192_1)).trans hx192_1
              replace p192 := eq_true p192; replace q192 := eq_true q192
              go_wp2_with (first | ((with_reducible refine gate_dst (N := 11) rfl ?_); refine zE 11 #[.int .i64 0, .int .i64 0] 39 ?_; intro gb193 hg w23 hbox hb; have BK193 := Aside0.mk (hbox); have GW193 := zg HB hg; replace HO_8 := zo HO_8 hb; replace HB := zh HB hb; clear hb hbox hg; obtain ⟨_, _, _, _⟩ := zc2 BK193))
              go_roundg k3
              case measure => have := HJ3.out; have := HK2.out; have := HK3.out; omega
              case rel => exact ⟨(x8_3), (wrap64 (x29_3 + 1)), zu, H', ⟨by have := HJ3.out; have := HK2.out; have := HK3.out; omega⟩, ⟨by (with_reducible repeat (first | apply Kd.R_alloc | apply Kd.R_drewN | apply Kd.R_drew)); exact Kd.R_mono (Kd.R_far (p := ⟨gb193, 1, none⟩) (Kd.R_far (p := ⟨gb193, 0, none⟩) (Kd.R_types HO_8.out BK193.out (by decide)) (fun _ hk => hk.2) (.int .i64 ((rd_T39 l1 x29_3).f0))) (fun _ hk => hk.2) (.int .i64 ((rd_T39 l1 x29_3).f1))) (fun _ hk => trivial)⟩, ⟨zy HB⟩⟩
            ·rw [if_neg c17] at H
             have c17b0 := decide_eq_false c17; clear c17; have H' := Aside0.mk H; clear H
             have p192 : 0 ≤ (x29_3 : Int) := of_decide_eq_true zU0_1
             have q192 : x29_3 < (l1.length : Int) := of_decide_eq_true zU0_1
             obtain ⟨ad192, e192, hx192_0, hx192_1⟩ := at_T39 HR1.out x29_3 p192 q192
             cases e192
             replace hx192_0 := (HB.out.cell (World.block_lt_of_cell? w _ hx192_0)).trans hx192_0
             replace hx192_1 := (HB.out.cell (World.block_lt_of_cell? w _ hx192_1)).trans hx192_1
             replace p192 := eq_true p192; replace q192 := eq_true q192
             go_wp2_with (first | ((with_reducible refine gate_dst (N := 11) rfl ?_); refine zE 11 #[.int .i64 0, .int .i64 0] 39 ?_; intro gb193 hg w25 hbox hb; have BK193 := Aside0.mk (hbox); have GW193 := zg HB hg; replace HO_8 := zo HO_8 hb; replace HB := zh HB hb; clear hb hbox hg; obtain ⟨_, _, _, _⟩ := zc2 BK193))
             go_roundg k3
             case measure => have := HJ3.out; have := HK2.out; have := HK3.out; omega
             case rel => exact ⟨(x8_3), (wrap64 (x29_3 + 1)), zu, H', ⟨by have := HJ3.out; have := HK2.out; have := HK3.out; omega⟩, ⟨by (with_reducible repeat (first | apply Kd.R_alloc | apply Kd.R_drewN | apply Kd.R_drew)); exact Kd.R_mono (Kd.R_far (p := ⟨gb193, 1, none⟩) (Kd.R_far (p := ⟨gb193, 0, none⟩) (Kd.R_types HO_8.out BK193.out (by decide)) (fun _ hk => hk.2) (.int .i64 ((rd_T39 l1 x29_3).f0))) (fun _ hk => hk.2) (.int .i64 ((rd_T39 l1 x29_3).f1))) (fun _ hk => trivial)⟩, ⟨zy HB⟩⟩
           ·rw [if_neg c16] at H
            exact absurd H zU0_4
          ·rw [if_neg c15] at H
           exact absurd H zU0_4
         ·rw [if_neg c14] at H
          have c14b0 := decide_eq_false c14; clear c14; have H' := Aside0.mk H; clear H
          go_wp2
          go_roundg k3
          case measure => have := HJ3.out; have := HK2.out; have := HK3.out; omega
          case rel => exact ⟨(x8_3), (wrap64 (x9_2 + 1)), zu, H', ⟨by have := HJ3.out; have := HK2.out; have := HK3.out; omega⟩, zp HO_8, ⟨zy HB⟩⟩
      ·rw [if_neg c13] at H
       have c13b0 := decide_eq_false c13; clear c13; simp only [Option.some.injEq, Prod.mk.injEq] at H; obtain ⟨rfl, rfl⟩ := H
       go_wp2
       go_ret2
       exact ⟨_, zt, by (with_reducible repeat (first | apply Kd.R_alloc | apply Kd.R_drewN | apply Kd.R_drew)); exact HO_8.out, zy HB⟩


/-! ### spec_l1In: function 40 -/
def spec_l1In.f (a0 : Int) (a1 : Int) (a2 : Int) : Option (Bool) := if a0 ≥ a1 then (some (decide (a0 ≤ a2))) else (some false)
theorem spec_l1In.calls (a0 : Int) (a1 : Int) (a2 : Int) (r : Bool) (w : World) (h : spec_l1In.f a0 a1 a2 = some r) :
 Calls Tryz.prog 40 #[.int .i64 a0, .int .i64 a1, .int .i64 a2] w fun e w' => e = .returned (.bool r) ∧ Drawn0 w w' := by
 have H := h; rw [spec_l1In.f] at H; clear h
 by_cases c4 : a0 ≥ a1
 ·rw [if_pos c4] at H
  have c4b0 := decide_eq_true c4; clear c4
  obtain rfl := Option.some.inj H
  go_enter Tryz.func40, Tryz.ntmps40
  go_wp2
  go_ret
  exact ⟨by first | rfl | (simp; done) | (simp [*]; done), by repeat (first | exact Drawn0.refl _ | apply Drawn0.step)⟩
 ·rw [if_neg c4] at H
  have c4b0 := decide_eq_false c4; clear c4
  obtain rfl := Option.some.inj H
  go_enter Tryz.func40, Tryz.ntmps40
  go_wp2
  go_ret
  exact ⟨by first | rfl | (simp; done) | (simp [*]; done), by repeat (first | exact Drawn0.refl _ | apply Drawn0.step)⟩


/-! ### spec_swPole: function 68 -/
def spec_swPole.f (a0_0 : Int) (a0_1 : Int) : Option (Bool) := (spec_l1In.f a0_0 1 500).bind fun t198 => (if t198 = true then ((spec_l1In.f a0_1 1 200).bind fun t199 => (some t199)) else (some false))
theorem spec_swPole.calls (a0_0 : Int) (a0_1 : Int) (r : Bool) (w : World) (h : spec_swPole.f a0_0 a0_1 = some r) :
 Calls Tryz.prog 68 #[.agg #[.int .i64 a0_0, .int .i64 a0_1]] w fun e w' => e = .returned (.bool r) ∧ Below w.heap.size w w' := by
 have hu39 := Tryz.underlying39
 have HB := Aside0.mk (Below.refl w.heap.size w)
 have H := h; rw [spec_swPole.f] at H; clear h; obtain ⟨t198, A2, H⟩ := zB H; (try dsimp only at H)
 by_cases c3 : t198 = true
 ·subst c3
  rw [if_pos rfl] at H; obtain ⟨t199, A4, H⟩ := zB H; (try dsimp only at H)
  obtain rfl := Option.some.inj H
  go_enter Tryz.func68, Tryz.ntmps68
  go_wp2_with (first | ((with_reducible refine gate_dst (N := 1) rfl ?_); refine zE 1 #[.int .i64 a0_0, .int .i64 a0_1] 39 ?_; intro gb197 hg w5 hbox hb; have BK197 := Aside0.mk (hbox); have GW197 := zg HB hg; replace HB := zh HB hb; clear hb hbox hg; obtain ⟨_, _, _, _⟩ := zc2 BK197) | ((with_reducible refine gate_callee (f := 40) rfl ?_); refine zG (some 5) Tryz.func40 #[.int .i64 a0_0, .int .i64 1, .int .i64 500] ?_; (with_reducible refine (spec_l1In.calls a0_0 1 500 true _ A2.out).mono ?_); rintro e w' ⟨rfl, ⟨nd, rfl⟩⟩; refine ⟨_, rfl, ?_⟩) | (go_at_call 40; (with_reducible refine (spec_l1In.calls a0_1 1 200 t199 _ A4.out).mono ?_); rintro e w' ⟨rfl, ⟨nd, rfl⟩⟩))
  go_ret
  exact ⟨zt, zy HB⟩
 ·replace c3 := Bool.eq_false_iff.mpr c3
  subst c3; rw [if_neg (show ¬ (false = true) by decide)] at H
  obtain rfl := Option.some.inj H
  go_enter Tryz.func68, Tryz.ntmps68
  go_wp2_with (first | ((with_reducible refine gate_dst (N := 1) rfl ?_); refine zE 1 #[.int .i64 a0_0, .int .i64 a0_1] 39 ?_; intro gb197 hg w7 hbox hb; have BK197 := Aside0.mk (hbox); have GW197 := zg HB hg; replace HB := zh HB hb; clear hb hbox hg; obtain ⟨_, _, _, _⟩ := zc2 BK197) | ((with_reducible refine gate_callee (f := 40) rfl ?_); refine zG (some 5) Tryz.func40 #[.int .i64 a0_0, .int .i64 1, .int .i64 500] ?_; (with_reducible refine (spec_l1In.calls a0_0 1 500 false _ A2.out).mono ?_); rintro e w' ⟨rfl, ⟨nd, rfl⟩⟩; refine ⟨_, rfl, ?_⟩))
  go_ret
  exact ⟨zt, zy HB⟩


/-! ### spec_swRow: function 52 -/
def spec_swRow.l0 : Nat → List (S39) → List (S39) → Int → Int → Option (Bool)
 | 0, _, _, _, _ => none
 | k + 1, x0, x9, x10, x11 => if x11 < x10 then (if 0 ≤ x11 then (if x11 < (x9.length : Int) then ((spec_swPole.f ((rd_T39 x9 x11).f0) ((rd_T39 x9 x11).f1)).bind fun t203 => (if t203 = true then (if x11 > 0 then (if 0 ≤ (wrap64 (x11 - 1)) then (if (wrap64 (x11 - 1)) < (x0.length : Int) then (if ((rd_T39 x9 x11).f0) ≤ ((rd_T39 x0 (wrap64 (x11 - 1))).f0) then (some false) else (spec_swRow.l0 k x0 x9 x10 (wrap64 (x11 + 1)))) else (none)) else (none)) else (spec_swRow.l0 k x0 x9 x10 (wrap64 (x11 + 1)))) else (some false))) else (none)) else (none)) else (some true)
def spec_swRow.f (k : Nat) (l0 : List (S39)) : Option (Bool) := (spec_l1In.f (l0.length : Int) 1 6).bind fun t200 => (if t200 = true then (spec_swRow.l0 k l0 l0 (l0.length : Int) 0) else (some false))
def spec_swRow.T6 : Bool × List (List Nat × List Nat) := (true, [([], []), ([0], [0]), ([1], [1]), ([2, 1], [2]), ([3], [3]), ([4, 3], [3, 4]), ([5, 3, 3], [3, 5]), ([6], [6]), ([7, 6], [6, 7]), ([6], [6]), ([6], [6]), ([10, 6], [6, 10]), ([9, 11, 6], [6, 9, 11]), ([12, 6], [6, 12]), ([13, 6], [6, 13]), ([8, 14, 6], [6, 8, 14]), ([6, 15, 3], [3, 6, 15]), ([3, 16], [3, 16])])
def spec_swRow.B6 : List Nat := [0, 1, 3, 7, 15, 31, 63, 127, 255, 127, 127, 1151, 3711, 7807, 15999, 32767, 65535, 131071]
theorem spec_swRow.tab6 : rtab .any (opsOf Tryz.f52 6) = spec_swRow.T6 := by kernel_rfl
theorem spec_swRow.bits6 : waitsOk spec_swRow.T6.2 spec_swRow.B6 = true := by kernel_rfl
theorem spec_swRow.calls (k : Nat) (A0 : Option Addr) (c0 : Nat) (l0 : List (S39)) (r : Bool) (w : World) (hr0 : Kd.C k39 w A0 l0.length l0) (hc0 : l0.length ≤ c0) (h : spec_swRow.f k l0 = some r) :
 Calls Tryz.prog 52 #[.slice A0 l0.length c0] w fun e w' => e = .returned (.bool r) ∧ Below w.heap.size w w' := by
 have hu39 := Tryz.underlying39; have HR0 := Aside0.mk hr0; have HC0 := Aside0.mk hc0; clear hr0 hc0
 have HB := Aside0.mk (Below.refl w.heap.size w)
 have H := h; rw [spec_swRow.f] at H; clear h; obtain ⟨t200, A2, H⟩ := zB H; (try dsimp only at H)
 by_cases c3 : t200 = true
 ·subst c3
  rw [if_pos rfl] at H; have H' := Aside0.mk H; clear H
  go_enter Tryz.func52, Tryz.ntmps52
  go_wp2_with (first | ((with_reducible refine gate_callee (f := 40) rfl ?_); refine zG (some 7) Tryz.func40 #[.int .i64 (l0.length : Int), .int .i64 1, .int .i64 6] ?_; (with_reducible refine (spec_l1In.calls (l0.length : Int) 1 6 true _ A2.out).mono ?_); rintro e w' ⟨rfl, ⟨nd, rfl⟩⟩; refine ⟨_, rfl, ?_⟩))
  go_loopg [11] k (fun kq v11 w' => ∃ (x11_1 : Int), v11 = .int .i64 x11_1 ∧ Aside0 (spec_swRow.l0 kq l0 l0 (l0.length : Int) x11_1 = some r) ∧ Aside0 (kq ≤ k) ∧ Aside0 (Below w.heap.size w w'))
  case atStart => exact ⟨(0), zu, H', ⟨Nat.le_refl _⟩, ⟨zy HB⟩⟩
  case round =>
   clear H'
   obtain ⟨x11_1, rfl, HA, HK1, HB⟩ := hrel
   cases gk with
   | zero => exact absurd HA.out (by simp [spec_swRow.l0])
   | succ k1 =>
    have H := HA.out; clear HA; simp only [spec_swRow.l0] at H
    by_cases c4 : x11_1 < (l0.length : Int)
    ·rw [if_pos c4] at H
     have c4b0 := decide_eq_true c4; clear c4
     by_cases c5 : 0 ≤ x11_1
     ·rw [if_pos c5] at H
      have c5b0 := decide_eq_true c5; clear c5
      by_cases c6 : x11_1 < (l0.length : Int)
      ·rw [if_pos c6] at H
       have c6b0 := decide_eq_true c6; clear c6; obtain ⟨t203, A7, H⟩ := zB H; (try dsimp only at H)
       by_cases c8 : t203 = true
       ·subst c8
        rw [if_pos rfl] at H
        by_cases c9 : x11_1 > 0
        ·rw [if_pos c9] at H
         have c9b0 := decide_eq_true c9; clear c9
         obtain ⟨ji10, hji10⟩ : ∃ j_ : Int, (wrap64 (x11_1 - 1)) = j_ := ⟨_, rfl⟩
         replace H : (if 0 ≤ (ji10) then (if (ji10) < (l0.length : Int) then (if ((rd_T39 l0 x11_1).f0) ≤ ((rd_T39 l0 (ji10)).f0) then (some false) else (spec_swRow.l0 k1 l0 l0 (l0.length : Int) (wrap64 (x11_1 + 1)))) else (none)) else (none)) = some r := by first | (rw [hji10] at H; exact H) | (simp only [hji10] at H ⊢; exact H)
         (try rw [hji10] at A7)
         have hji10w : (IntKind.i64.wrap (x11_1 - 1)) = ji10 := (i64_w _).trans hji10
         by_cases c11 : 0 ≤ (ji10)
         ·rw [if_pos c11] at H
          have c11b0 := decide_eq_true c11; clear c11
          by_cases c12 : (ji10) < (l0.length : Int)
          ·rw [if_pos c12] at H
           have c12b0 := decide_eq_true c12; clear c12
           by_cases c13 : ((rd_T39 l0 x11_1).f0) ≤ ((rd_T39 l0 (ji10)).f0)
           ·rw [if_pos c13] at H
            have c13b0 := decide_eq_true c13; clear c13
            obtain rfl := Option.some.inj H
            have p201 : 0 ≤ (x11_1 : Int) := of_decide_eq_true zU0_1
            have q201 : x11_1 < (l0.length : Int) := of_decide_eq_true zU0_1
            obtain ⟨ad201, e201, hx201_0, hx201_1⟩ := at_T39 HR0.out x11_1 p201 q201
            cases e201
            replace hx201_0 := (HB.out.cell (World.block_lt_of_cell? w _ hx201_0)).trans hx201_0
            replace hx201_1 := (HB.out.cell (World.block_lt_of_cell? w _ hx201_1)).trans hx201_1
            replace p201 := eq_true p201; replace q201 := eq_true q201
            try go_wp2_with (first | ((with_reducible refine gate_dst (N := 4) rfl ?_); refine zE 4 #[.int .i64 0, .int .i64 0] 39 ?_; intro gb202 hg w14 hbox hb; have BK202 := Aside0.mk (hbox); have GW202 := zg HB hg; replace HB := zh HB hb; clear hb hbox hg; obtain ⟨_, _, _, _⟩ := zc2 BK202))
            have n0_ : Aside0 (((w14.setCell ⟨gb202, 0, none⟩ (.int .i64 ((rd_T39 l0 x11_1).f0))).setCell ⟨gb202, 1, none⟩ (.int .i64 ((rd_T39 l0 x11_1).f1))).heap[gb202]? = some (.cells #[.int .i64 ((rd_T39 l0 x11_1).f0), .int .i64 ((rd_T39 l0 x11_1).f1)] 39 (0, 0))) := ⟨zw BK202⟩
            have n1_ : Aside0 (Below w.heap.size w ((w14.setCell ⟨gb202, 0, none⟩ (.int .i64 ((rd_T39 l0 x11_1).f0))).setCell ⟨gb202, 1, none⟩ (.int .i64 ((rd_T39 l0 x11_1).f1)))) := ⟨zy HB⟩
            (try clear BK202)
            (try clear HB)
            generalize ((w14.setCell ⟨gb202, 0, none⟩ (.int .i64 ((rd_T39 l0 x11_1).f0))).setCell ⟨gb202, 1, none⟩ (.int .i64 ((rd_T39 l0 x11_1).f1))) = w16 at n0_ n1_ ⊢
            have BK202 := n0_; have HB := n1_; clear n0_ n1_; replace BK202 := Aside0.mk (blk_drew BK202.out); replace HB := Aside0.mk (below_drew1 HB.out)
            have p204 : 0 ≤ ((ji10) : Int) := of_decide_eq_true zU0_1
            have q204 : (ji10) < (l0.length : Int) := of_decide_eq_true zU0_1
            obtain ⟨ad204, e204, hx204_0, hx204_1⟩ := at_T39 HR0.out (ji10) p204 q204
            have hw204_1 := hx204_1; have hw204_0 := hx204_0
            obtain rfl : ad201 = ad204 := (by injection e204)
            replace hx204_0 := (HB.out.cell (World.block_lt_of_cell? w _ hx204_0)).trans hx204_0
            replace hx204_1 := (HB.out.cell (World.block_lt_of_cell? w _ hx204_1)).trans hx204_1
            replace p204 := eq_true p204; replace q204 := eq_true q204
            refine start_ (n := 18) (S := fun w' => w'.cell? ⟨gb202, 0, none⟩ = some (.int .i64 ((rd_T39 l0 x11_1).f0)) ∧ w'.cell? ⟨gb202, 1, none⟩ = some (.int .i64 ((rd_T39 l0 x11_1).f1)) ∧ w'.cell? (ad201.add (((ji10)).toNat * 2)) = some (.int .i64 ((rd_T39 l0 (ji10)).f0)) ∧ w'.cell? ⟨(ad201.add (((ji10)).toNat * 2)).block, (ad201.add (((ji10)).toNat * 2)).off + 1, none⟩ = some (.int .i64 ((rd_T39 l0 (ji10)).f1))) (ds := []) #[false, false, false, false, false, false, false, false, false, false, false, false, false, false, false, false, false, false] (by kernel_rfl) rfl rfl ⟨zq0 BK202 0, zq0 BK202 1, ((HB.out.cell (World.block_lt_of_cell? w _ hw204_0)).trans hw204_0), ((HB.out.cell (World.block_lt_of_cell? w _ hw204_1)).trans hw204_1)⟩ (fun hHeld => ?_); refine with_tabW spec_swRow.tab6 spec_swRow.bits6 (fun HT_ HW_ => ?_)
            generalize w16.drew = w17 at BK202 HB hx204_0 hx204_1 hHeld ⊢
            refine zT 0 16 HT_ HW_ hHeld ?_
            refine zO 1 (some 17) HT_ (fun K hK => ?_)
            refine goes_ Tryz.func68 (by kernel_rfl) rfl #[.agg #[.int .i64 ((rd_T39 l0 x11_1).f0), .int .i64 ((rd_T39 l0 x11_1).f1)]] (by rfl) rfl rfl zU0_0 ?_
            with_reducible refine (spec_swPole.calls ((rd_T39 l0 x11_1).f0) ((rd_T39 l0 x11_1).f1) true _ A7.out).mono ?_
            rintro e w18 ⟨rfl, hb⟩
            refine ⟨_, rfl, ?_⟩
            replace BK202 := zb BK202 hb; replace HB := zh HB hb
            (try clear hb)
            (try clear hb2)
            (try clear hk)
            (try clear hi)
            refine hK.out _ _ ⟨zq0 BK202 0, zq0 BK202 1, ((HB.out.cell (World.block_lt_of_cell? w _ hw204_0)).trans hw204_0), ((HB.out.cell (World.block_lt_of_cell? w _ hw204_1)).trans hw204_1)⟩ (fun hHeld => ?_)
            clear hK K
            refine zN 17 ?_
            refine zA 2 18 HT_ ?_
            refine zA 3 19 HT_ ?_
            refine zA 4 20 HT_ ?_
            refine zA 5 21 HT_ ?_
            refine zA 6 22 HT_ ?_
            refine zA 7 23 HT_ ?_
            refine zA 9 25 HT_ ?_
            refine zA 10 26 HT_ ?_
            refine zA 11 27 HT_ ?_
            refine zA 12 28 HT_ ?_
            refine zA 13 29 HT_ ?_
            refine zT 8 24 HT_ HW_ hHeld ?_
            refine zT 14 30 HT_ HW_ hHeld ?_
            refine zA 15 31 HT_ ?_
            refine zA 16 32 HT_ ?_
            refine zA 17 33 HT_ ?_
            refine done_ (done_of HT_.out (by kernel_rfl)) ?_
            try go_wp2
            go_ret
            exact ⟨by first | rfl | (simp [errW_none, errW_some] <;> rfl) | (simp only [← hji10]; first | rfl | (simp [errW_none, errW_some] <;> rfl)) | (simp [*, errW_none, errW_some] <;> rfl), zy HB⟩
           ·rw [if_neg c13] at H
            have c13b0 := decide_eq_false c13; clear c13; have H' := Aside0.mk H; clear H
            have p201 : 0 ≤ (x11_1 : Int) := of_decide_eq_true zU0_1
            have q201 : x11_1 < (l0.length : Int) := of_decide_eq_true zU0_1
            obtain ⟨ad201, e201, hx201_0, hx201_1⟩ := at_T39 HR0.out x11_1 p201 q201
            cases e201
            replace hx201_0 := (HB.out.cell (World.block_lt_of_cell? w _ hx201_0)).trans hx201_0
            replace hx201_1 := (HB.out.cell (World.block_lt_of_cell? w _ hx201_1)).trans hx201_1
            replace p201 := eq_true p201; replace q201 := eq_true q201
            try go_wp2_with (first | ((with_reducible refine gate_dst (N := 4) rfl ?_); refine zE 4 #[.int .i64 0, .int .i64 0] 39 ?_; intro gb202 hg w19 hbox hb; have BK202 := Aside0.mk (hbox); have GW202 := zg HB hg; replace HB := zh HB hb; clear hb hbox hg; obtain ⟨_, _, _, _⟩ := zc2 BK202))
            have n0_ : Aside0 (((w19.setCell ⟨gb202, 0, none⟩ (.int .i64 ((rd_T39 l0 x11_1).f0))).setCell ⟨gb202, 1, none⟩ (.int .i64 ((rd_T39 l0 x11_1).f1))).heap[gb202]? = some (.cells #[.int .i64 ((rd_T39 l0 x11_1).f0), .int .i64 ((rd_T39 l0 x11_1).f1)] 39 (0, 0))) := ⟨zw BK202⟩
            have n1_ : Aside0 (Below w.heap.size w ((w19.setCell ⟨gb202, 0, none⟩ (.int .i64 ((rd_T39 l0 x11_1).f0))).setCell ⟨gb202, 1, none⟩ (.int .i64 ((rd_T39 l0 x11_1).f1)))) := ⟨zy HB⟩
            (try clear BK202)
            (try clear HB)
            generalize ((w19.setCell ⟨gb202, 0, none⟩ (.int .i64 ((rd_T39 l0 x11_1).f0))).setCell ⟨gb202, 1, none⟩ (.int .i64 ((rd_T39 l0 x11_1).f1))) = w21 at n0_ n1_ ⊢
            have BK202 := n0_; have HB := n1_; clear n0_ n1_; replace BK202 := Aside0.mk (blk_drew BK202.out); replace HB := Aside0.mk (below_drew1 HB.out)
            have p204 : 0 ≤ ((ji10) : Int) := of_decide_eq_true zU0_1
            have q204 : (ji10) < (l0.length : Int) := of_decide_eq_true zU0_1
            obtain ⟨ad204, e204, hx204_0, hx204_1⟩ := at_T39 HR0.out (ji10) p204 q204
            have hw204_1 := hx204_1; have hw204_0 := hx204_0
            obtain rfl : ad201 = ad204 := (by injection e204)
            replace hx204_0 := (HB.out.cell (World.block_lt_of_cell? w _ hx204_0)).trans hx204_0
            replace hx204_1 := (HB.out.cell (World.block_lt_of_cell? w _ hx204_1)).trans hx204_1
            replace p204 := eq_true p204; replace q204 := eq_true q204
            refine start_ (n := 18) (S := fun w' => w'.cell? ⟨gb202, 0, none⟩ = some (.int .i64 ((rd_T39 l0 x11_1).f0)) ∧ w'.cell? ⟨gb202, 1, none⟩ = some (.int .i64 ((rd_T39 l0 x11_1).f1)) ∧ w'.cell? (ad201.add (((ji10)).toNat * 2)) = some (.int .i64 ((rd_T39 l0 (ji10)).f0)) ∧ w'.cell? ⟨(ad201.add (((ji10)).toNat * 2)).block, (ad201.add (((ji10)).toNat * 2)).off + 1, none⟩ = some (.int .i64 ((rd_T39 l0 (ji10)).f1))) (ds := []) #[false, false, false, false, false, false, false, false, false, false, false, false, false, false, false, false, false, false] (by kernel_rfl) rfl rfl ⟨zq0 BK202 0, zq0 BK202 1, ((HB.out.cell (World.block_lt_of_cell? w _ hw204_0)).trans hw204_0), ((HB.out.cell (World.block_lt_of_cell? w _ hw204_1)).trans hw204_1)⟩ (fun hHeld => ?_); refine with_tabW spec_swRow.tab6 spec_swRow.bits6 (fun HT_ HW_ => ?_)
            generalize w21.drew = w22 at BK202 HB hx204_0 hx204_1 hHeld ⊢
            refine zT 0 16 HT_ HW_ hHeld ?_
            refine zO 1 (some 17) HT_ (fun K hK => ?_)
            refine goes_ Tryz.func68 (by kernel_rfl) rfl #[.agg #[.int .i64 ((rd_T39 l0 x11_1).f0), .int .i64 ((rd_T39 l0 x11_1).f1)]] (by rfl) rfl rfl zU0_0 ?_
            with_reducible refine (spec_swPole.calls ((rd_T39 l0 x11_1).f0) ((rd_T39 l0 x11_1).f1) true _ A7.out).mono ?_
            rintro e w23 ⟨rfl, hb⟩
            refine ⟨_, rfl, ?_⟩
            replace BK202 := zb BK202 hb; replace HB := zh HB hb
            (try clear hb)
            (try clear hb2)
            (try clear hk)
            (try clear hi)
            refine hK.out _ _ ⟨zq0 BK202 0, zq0 BK202 1, ((HB.out.cell (World.block_lt_of_cell? w _ hw204_0)).trans hw204_0), ((HB.out.cell (World.block_lt_of_cell? w _ hw204_1)).trans hw204_1)⟩ (fun hHeld => ?_)
            clear hK K
            refine zN 17 ?_
            refine zA 2 18 HT_ ?_
            refine zA 3 19 HT_ ?_
            refine zA 4 20 HT_ ?_
            refine zA 5 21 HT_ ?_
            refine zA 6 22 HT_ ?_
            refine zA 7 23 HT_ ?_
            refine zA 9 25 HT_ ?_
            refine zA 10 26 HT_ ?_
            refine zA 11 27 HT_ ?_
            refine zA 12 28 HT_ ?_
            refine zA 13 29 HT_ ?_
            refine zT 8 24 HT_ HW_ hHeld ?_
            refine zT 14 30 HT_ HW_ hHeld ?_
            refine zA 15 31 HT_ ?_
            refine zA 16 32 HT_ ?_
            refine zA 17 33 HT_ ?_
            refine done_ (done_of HT_.out (by kernel_rfl)) ?_
            try go_wp2
            go_roundg k1
            case measure => have := HK1.out; omega
            case rel => exact ⟨(wrap64 (x11_1 + 1)), zu, H', ⟨by have := HK1.out; omega⟩, ⟨zy HB⟩⟩
          ·rw [if_neg c12] at H
           exact absurd H zU0_4
         ·rw [if_neg c11] at H
          exact absurd H zU0_4
        ·rw [if_neg c9] at H
         have c9b0 := decide_eq_false c9; clear c9; have H' := Aside0.mk H; clear H
         have p201 : 0 ≤ (x11_1 : Int) := of_decide_eq_true zU0_1
         have q201 : x11_1 < (l0.length : Int) := of_decide_eq_true zU0_1
         obtain ⟨ad201, e201, hx201_0, hx201_1⟩ := at_T39 HR0.out x11_1 p201 q201
         cases e201
         replace hx201_0 := (HB.out.cell (World.block_lt_of_cell? w _ hx201_0)).trans hx201_0
         replace hx201_1 := (HB.out.cell (World.block_lt_of_cell? w _ hx201_1)).trans hx201_1
         replace p201 := eq_true p201; replace q201 := eq_true q201
         try go_wp2_with (first | ((with_reducible refine gate_dst (N := 4) rfl ?_); refine zE 4 #[.int .i64 0, .int .i64 0] 39 ?_; intro gb202 hg w24 hbox hb; have BK202 := Aside0.mk (hbox); have GW202 := zg HB hg; replace HB := zh HB hb; clear hb hbox hg; obtain ⟨_, _, _, _⟩ := zc2 BK202))
         have n0_ : Aside0 (((w24.setCell ⟨gb202, 0, none⟩ (.int .i64 ((rd_T39 l0 x11_1).f0))).setCell ⟨gb202, 1, none⟩ (.int .i64 ((rd_T39 l0 x11_1).f1))).heap[gb202]? = some (.cells #[.int .i64 ((rd_T39 l0 x11_1).f0), .int .i64 ((rd_T39 l0 x11_1).f1)] 39 (0, 0))) := ⟨zw BK202⟩
         have n1_ : Aside0 (Below w.heap.size w ((w24.setCell ⟨gb202, 0, none⟩ (.int .i64 ((rd_T39 l0 x11_1).f0))).setCell ⟨gb202, 1, none⟩ (.int .i64 ((rd_T39 l0 x11_1).f1)))) := ⟨zy HB⟩
         (try clear BK202)
         (try clear HB)
         generalize ((w24.setCell ⟨gb202, 0, none⟩ (.int .i64 ((rd_T39 l0 x11_1).f0))).setCell ⟨gb202, 1, none⟩ (.int .i64 ((rd_T39 l0 x11_1).f1))) = w26 at n0_ n1_ ⊢
         have BK202 := n0_; have HB := n1_; clear n0_ n1_; replace BK202 := Aside0.mk (blk_drew BK202.out); replace HB := Aside0.mk (below_drew1 HB.out)
         refine start_ (n := 18) (S := fun w' => w'.cell? ⟨gb202, 0, none⟩ = some (.int .i64 ((rd_T39 l0 x11_1).f0)) ∧ w'.cell? ⟨gb202, 1, none⟩ = some (.int .i64 ((rd_T39 l0 x11_1).f1))) (ds := []) #[false, false, false, false, false, false, false, false, false, false, false, false, false, false, false, false, false, false] (by kernel_rfl) rfl rfl ⟨zq0 BK202 0, zq0 BK202 1⟩ (fun hHeld => ?_); refine with_tabW spec_swRow.tab6 spec_swRow.bits6 (fun HT_ HW_ => ?_)
         generalize w26.drew = w27 at BK202 HB hHeld ⊢
         refine zT 0 16 HT_ HW_ hHeld ?_
         refine zO 1 (some 17) HT_ (fun K hK => ?_)
         refine goes_ Tryz.func68 (by kernel_rfl) rfl #[.agg #[.int .i64 ((rd_T39 l0 x11_1).f0), .int .i64 ((rd_T39 l0 x11_1).f1)]] (by rfl) rfl rfl zU0_0 ?_
         with_reducible refine (spec_swPole.calls ((rd_T39 l0 x11_1).f0) ((rd_T39 l0 x11_1).f1) true _ A7.out).mono ?_
         rintro e w28 ⟨rfl, hb⟩
         refine ⟨_, rfl, ?_⟩
         replace BK202 := zb BK202 hb; replace HB := zh HB hb
         (try clear hb)
         (try clear hb2)
         (try clear hk)
         (try clear hi)
         refine hK.out _ _ ⟨zq0 BK202 0, zq0 BK202 1⟩ (fun hHeld => ?_)
         clear hK K
         refine zN 17 ?_
         refine zA 2 18 HT_ ?_
         refine zA 3 19 HT_ ?_
         refine zA 4 20 HT_ ?_
         refine zA 5 21 HT_ ?_
         refine zA 6 22 HT_ ?_
         refine zAu 7 23 HT_ ?_
         refine zAu 8 24 HT_ ?_
         refine zAu 9 25 HT_ ?_
         refine zAu 10 26 HT_ ?_
         refine zAu 11 27 HT_ ?_
         refine zAu 12 28 HT_ ?_
         refine zAu 13 29 HT_ ?_
         refine zAu 14 30 HT_ ?_
         refine zAu 15 31 HT_ ?_
         refine zA 16 32 HT_ ?_
         refine zA 17 33 HT_ ?_
         refine done_ (done_of HT_.out (by kernel_rfl)) ?_
         try go_wp2
         go_roundg k1
         case measure => have := HK1.out; omega
         case rel => exact ⟨(wrap64 (x11_1 + 1)), zu, H', ⟨by have := HK1.out; omega⟩, ⟨zy HB⟩⟩
       ·replace c8 := Bool.eq_false_iff.mpr c8
        subst c8; rw [if_neg (show ¬ (false = true) by decide)] at H
        obtain rfl := Option.some.inj H
        have p201 : 0 ≤ (x11_1 : Int) := of_decide_eq_true zU0_1
        have q201 : x11_1 < (l0.length : Int) := of_decide_eq_true zU0_1
        obtain ⟨ad201, e201, hx201_0, hx201_1⟩ := at_T39 HR0.out x11_1 p201 q201
        cases e201
        replace hx201_0 := (HB.out.cell (World.block_lt_of_cell? w _ hx201_0)).trans hx201_0
        replace hx201_1 := (HB.out.cell (World.block_lt_of_cell? w _ hx201_1)).trans hx201_1
        replace p201 := eq_true p201; replace q201 := eq_true q201
        try go_wp2_with (first | ((with_reducible refine gate_dst (N := 4) rfl ?_); refine zE 4 #[.int .i64 0, .int .i64 0] 39 ?_; intro gb202 hg w29 hbox hb; have BK202 := Aside0.mk (hbox); have GW202 := zg HB hg; replace HB := zh HB hb; clear hb hbox hg; obtain ⟨_, _, _, _⟩ := zc2 BK202))
        have n0_ : Aside0 (((w29.setCell ⟨gb202, 0, none⟩ (.int .i64 ((rd_T39 l0 x11_1).f0))).setCell ⟨gb202, 1, none⟩ (.int .i64 ((rd_T39 l0 x11_1).f1))).heap[gb202]? = some (.cells #[.int .i64 ((rd_T39 l0 x11_1).f0), .int .i64 ((rd_T39 l0 x11_1).f1)] 39 (0, 0))) := ⟨zw BK202⟩
        have n1_ : Aside0 (Below w.heap.size w ((w29.setCell ⟨gb202, 0, none⟩ (.int .i64 ((rd_T39 l0 x11_1).f0))).setCell ⟨gb202, 1, none⟩ (.int .i64 ((rd_T39 l0 x11_1).f1)))) := ⟨zy HB⟩
        (try clear BK202)
        (try clear HB)
        generalize ((w29.setCell ⟨gb202, 0, none⟩ (.int .i64 ((rd_T39 l0 x11_1).f0))).setCell ⟨gb202, 1, none⟩ (.int .i64 ((rd_T39 l0 x11_1).f1))) = w31 at n0_ n1_ ⊢
        have BK202 := n0_; have HB := n1_; clear n0_ n1_; replace BK202 := Aside0.mk (blk_drew BK202.out); replace HB := Aside0.mk (below_drew1 HB.out)
        refine start_ (n := 18) (S := fun w' => w'.cell? ⟨gb202, 0, none⟩ = some (.int .i64 ((rd_T39 l0 x11_1).f0)) ∧ w'.cell? ⟨gb202, 1, none⟩ = some (.int .i64 ((rd_T39 l0 x11_1).f1))) (ds := []) #[false, false, false, false, false, false, false, false, false, false, false, false, false, false, false, false, false, false] (by kernel_rfl) rfl rfl ⟨zq0 BK202 0, zq0 BK202 1⟩ (fun hHeld => ?_); refine with_tabW spec_swRow.tab6 spec_swRow.bits6 (fun HT_ HW_ => ?_)
        generalize w31.drew = w32 at BK202 HB hHeld ⊢
        refine zT 0 16 HT_ HW_ hHeld ?_
        refine zO 1 (some 17) HT_ (fun K hK => ?_)
        refine goes_ Tryz.func68 (by kernel_rfl) rfl #[.agg #[.int .i64 ((rd_T39 l0 x11_1).f0), .int .i64 ((rd_T39 l0 x11_1).f1)]] (by rfl) rfl rfl zU0_0 ?_
        with_reducible refine (spec_swPole.calls ((rd_T39 l0 x11_1).f0) ((rd_T39 l0 x11_1).f1) false _ A7.out).mono ?_
        rintro e w33 ⟨rfl, hb⟩
        refine ⟨_, rfl, ?_⟩
        replace BK202 := zb BK202 hb; replace HB := zh HB hb
        (try clear hb)
        (try clear hb2)
        (try clear hk)
        (try clear hi)
        refine hK.out _ _ ⟨zq0 BK202 0, zq0 BK202 1⟩ (fun hHeld => ?_)
        clear hK K
        refine zN 17 ?_
        refine zA 2 18 HT_ ?_
        refine zA 3 19 HT_ ?_
        refine zAu 4 20 HT_ ?_
        refine zAu 5 21 HT_ ?_
        refine zAu 6 22 HT_ ?_
        refine zAu 7 23 HT_ ?_
        refine zAu 8 24 HT_ ?_
        refine zAu 9 25 HT_ ?_
        refine zAu 10 26 HT_ ?_
        refine zAu 11 27 HT_ ?_
        refine zAu 12 28 HT_ ?_
        refine zAu 13 29 HT_ ?_
        refine zAu 14 30 HT_ ?_
        refine zAu 15 31 HT_ ?_
        refine zAu 16 32 HT_ ?_
        refine zA 17 33 HT_ ?_
        refine done_ (done_of HT_.out (by kernel_rfl)) ?_
        try go_wp2
        go_ret
        exact ⟨zt, zy HB⟩
      ·rw [if_neg c6] at H
       exact absurd H zU0_4
     ·rw [if_neg c5] at H
      exact absurd H zU0_4
    ·rw [if_neg c4] at H
     have c4b0 := decide_eq_false c4; clear c4
     obtain rfl := Option.some.inj H
     go_wp2
     go_ret
     exact ⟨zt, zy HB⟩
 ·replace c3 := Bool.eq_false_iff.mpr c3
  subst c3; rw [if_neg (show ¬ (false = true) by decide)] at H
  obtain rfl := Option.some.inj H
  go_enter Tryz.func52, Tryz.ntmps52
  go_wp2_with (first | ((with_reducible refine gate_callee (f := 40) rfl ?_); refine zG (some 7) Tryz.func40 #[.int .i64 (l0.length : Int), .int .i64 1, .int .i64 6] ?_; (with_reducible refine (spec_l1In.calls (l0.length : Int) 1 6 false _ A2.out).mono ?_); rintro e w' ⟨rfl, ⟨nd, rfl⟩⟩; refine ⟨_, rfl, ?_⟩))
  go_ret
  exact ⟨zt, zy HB⟩


/-! ### spec_swLamp: function 62 -/
def spec_swLamp.f (a0 : Int) : Option (Bool) := (spec_l1In.f a0 2 200).bind fun t205 => (some t205)
theorem spec_swLamp.calls (a0 : Int) (r : Bool) (w : World) (h : spec_swLamp.f a0 = some r) :
 Calls Tryz.prog 62 #[.int .i64 a0] w fun e w' => e = .returned (.bool r) ∧ Drawn0 w w' := by
 have H := h; rw [spec_swLamp.f] at H; clear h; obtain ⟨t205, A2, H⟩ := zB H; (try dsimp only at H)
 obtain rfl := Option.some.inj H
 go_enter Tryz.func62, Tryz.ntmps62
 go_wp2_with (first | ((with_reducible refine gate_callee (f := 40) rfl ?_); refine zG (some 4) Tryz.func40 #[.int .i64 a0, .int .i64 2, .int .i64 200] ?_; (with_reducible refine (spec_l1In.calls a0 2 200 t205 _ A2.out).mono ?_); rintro e w' ⟨rfl, ⟨nd, rfl⟩⟩; refine ⟨_, rfl, ?_⟩))
 go_ret
 exact ⟨by first | rfl | (simp; done) | (simp [*]; done), by repeat (first | exact Drawn0.refl _ | apply Drawn0.step)⟩


/-! ### spec_swGood: function 39 -/
mutual
def spec_swGood.j0 : Nat → Int → List (S39) → Bool → Option (Bool)
 | 0, _, _, _ => none
 | k + 1, x0, x1, x14 => if x14 = true then (some false) else (spec_swGood.l0 k x0 x1 (x1.length : Int) 0)
def spec_swGood.l0 : Nat → Int → List (S39) → Int → Int → Option (Bool)
 | 0, _, _, _, _ => none
 | k + 1, x0, x15, x16, x17 => if x17 < x16 then (if 0 ≤ x17 then (if x17 < (x15.length : Int) then (if ((rd_T39 x15 x17).f1) ≥ x0 then (some false) else (spec_swGood.l0 k x0 x15 x16 (wrap64 (x17 + 1)))) else (none)) else (none)) else (some true)
end
def spec_swGood.f (k : Nat) (a0 : Int) (l1 : List (S39)) : Option (Bool) := (spec_swLamp.f a0).bind fun t206 => (if t206 = true then ((spec_swRow.f k l1).bind fun t207 => (spec_swGood.j0 k a0 l1 (!t207))) else (spec_swGood.j0 k a0 l1 true))
theorem spec_swGood.calls (k : Nat) (a0 : Int) (A1 : Option Addr) (c1 : Nat) (l1 : List (S39)) (r : Bool) (w : World) (hr1 : Kd.C k39 w A1 l1.length l1) (hc1 : l1.length ≤ c1) (h : spec_swGood.f k a0 l1 = some r) :
 Calls Tryz.prog 39 #[.int .i64 a0, .slice A1 l1.length c1] w fun e w' => e = .returned (.bool r) ∧ Below w.heap.size w w' := by
 have hu39 := Tryz.underlying39; have HR1 := Aside0.mk hr1; have HC1 := Aside0.mk hc1; clear hr1 hc1
 have HB := Aside0.mk (Below.refl w.heap.size w)
 have H := h; rw [spec_swGood.f] at H; clear h; have HC3 := Aside0.mk H; clear H
 go_enter Tryz.func39, Tryz.ntmps39
 go_upto_region 1 with (fail)
 go_cut [14] (fun v14 wc => ∃ (kq : Nat) (x14_2 : Bool), v14 = .bool x14_2 ∧ Aside0 (spec_swGood.j0 kq a0 l1 x14_2 = some r) ∧ Aside0 (kq ≤ k) ∧ Aside0 (Below w.heap.size w wc))
 case first =>
  have H := HC3.out; clear HC3; obtain ⟨t206, A4, H⟩ := zB H; (try dsimp only at H)
  by_cases c5 : t206 = true
  ·subst c5
   rw [if_pos rfl] at H; obtain ⟨t207, A6, H⟩ := zB H; (try dsimp only at H); have H' := Aside0.mk H; clear H
   go_wp2_with (first | ((with_reducible refine gate_callee (f := 62) rfl ?_); refine zG (some 8) Tryz.func62 #[.int .i64 a0] ?_; (with_reducible refine (spec_swLamp.calls a0 true _ A4.out).mono ?_); rintro e w' ⟨rfl, ⟨nd, rfl⟩⟩; refine ⟨_, rfl, ?_⟩) | (go_at_call 52; (with_reducible refine (spec_swRow.calls k _ _ l1 t207 _ ?side1 ?side2 A6.out).mono ?_); (case side1 => exact zC HR1 HB); (case side2 => exact HC1.out); rintro e w7 ⟨rfl, hb⟩; replace HB := zh HB hb; clear hb))
   go_meet
   case rel => exact ⟨_, (!t207), zu, H', ⟨by first | omega | exact Nat.le_refl _⟩, ⟨zy HB⟩⟩
  ·replace c5 := Bool.eq_false_iff.mpr c5
   subst c5; rw [if_neg (show ¬ (false = true) by decide)] at H; have H' := Aside0.mk H; clear H
   go_wp2_with (first | ((with_reducible refine gate_callee (f := 62) rfl ?_); refine zG (some 8) Tryz.func62 #[.int .i64 a0] ?_; (with_reducible refine (spec_swLamp.calls a0 false _ A4.out).mono ?_); rintro e w' ⟨rfl, ⟨nd, rfl⟩⟩; refine ⟨_, rfl, ?_⟩))
   go_meet
   case rel => exact ⟨_, (true), zu, H', ⟨by first | omega | exact Nat.le_refl _⟩, ⟨zy HB⟩⟩
 case rest =>
  clear HC3
  obtain ⟨kq, x14_2, rfl, HA, HJ2, HB⟩ := hcut
  cases kq with
  | zero => exact absurd HA.out (by simp [spec_swGood.j0])
  | succ kj2 =>
   have H := HA.out; clear HA; simp only [spec_swGood.j0] at H
   by_cases c8 : x14_2 = true
   ·subst c8
    rw [if_pos rfl] at H
    obtain rfl := Option.some.inj H
    go_wp2
    go_ret
    exact ⟨zt, zy HB⟩
   ·replace c8 := Bool.eq_false_iff.mpr c8
    subst c8; rw [if_neg (show ¬ (false = true) by decide)] at H; have H' := Aside0.mk H; clear H
    go_wp2
    go_loopg [17] kj2 (fun kq v17 w' => ∃ (x17_2 : Int), v17 = .int .i64 x17_2 ∧ Aside0 (spec_swGood.l0 kq a0 l1 (l1.length : Int) x17_2 = some r) ∧ Aside0 (kq ≤ kj2) ∧ Aside0 (Below w.heap.size w w'))
    case atStart => exact ⟨(0), zu, H', ⟨Nat.le_refl _⟩, ⟨zy HB⟩⟩
    case round =>
     clear H'
     obtain ⟨x17_2, rfl, HA, HK2, HB⟩ := hrel
     cases gk with
     | zero => exact absurd HA.out (by simp [spec_swGood.l0])
     | succ k2 =>
      have H := HA.out; clear HA; simp only [spec_swGood.l0] at H
      by_cases c9 : x17_2 < (l1.length : Int)
      ·rw [if_pos c9] at H
       have c9b0 := decide_eq_true c9; clear c9
       by_cases c10 : 0 ≤ x17_2
       ·rw [if_pos c10] at H
        have c10b0 := decide_eq_true c10; clear c10
        by_cases c11 : x17_2 < (l1.length : Int)
        ·rw [if_pos c11] at H
         have c11b0 := decide_eq_true c11; clear c11
         by_cases c12 : ((rd_T39 l1 x17_2).f1) ≥ a0
         ·rw [if_pos c12] at H
          have c12b0 := decide_eq_true c12; clear c12
          obtain rfl := Option.some.inj H
          have p208 : 0 ≤ (x17_2 : Int) := of_decide_eq_true zU0_1
          have q208 : x17_2 < (l1.length : Int) := of_decide_eq_true zU0_1
          obtain ⟨ad208, e208, hx208_0, hx208_1⟩ := at_T39 HR1.out x17_2 p208 q208
          cases e208
          replace hx208_0 := (HB.out.cell (World.block_lt_of_cell? w _ hx208_0)).trans hx208_0
          replace hx208_1 := (HB.out.cell (World.block_lt_of_cell? w _ hx208_1)).trans hx208_1
          replace p208 := eq_true p208; replace q208 := eq_true q208
          go_wp2_with (first | ((with_reducible refine gate_dst (N := 6) rfl ?_); refine zE 6 #[.int .i64 0, .int .i64 0] 39 ?_; intro gb209 hg w13 hbox hb; have BK209 := Aside0.mk (hbox); have GW209 := zg HB hg; replace HB := zh HB hb; clear hb hbox hg; obtain ⟨_, _, _, _⟩ := zc2 BK209))
          go_ret
          exact ⟨zt, zy HB⟩
         ·rw [if_neg c12] at H
          have c12b0 := decide_eq_false c12; clear c12; have H' := Aside0.mk H; clear H
          have p208 : 0 ≤ (x17_2 : Int) := of_decide_eq_true zU0_1
          have q208 : x17_2 < (l1.length : Int) := of_decide_eq_true zU0_1
          obtain ⟨ad208, e208, hx208_0, hx208_1⟩ := at_T39 HR1.out x17_2 p208 q208
          cases e208
          replace hx208_0 := (HB.out.cell (World.block_lt_of_cell? w _ hx208_0)).trans hx208_0
          replace hx208_1 := (HB.out.cell (World.block_lt_of_cell? w _ hx208_1)).trans hx208_1
          replace p208 := eq_true p208; replace q208 := eq_true q208
          go_wp2_with (first | ((with_reducible refine gate_dst (N := 6) rfl ?_); refine zE 6 #[.int .i64 0, .int .i64 0] 39 ?_; intro gb209 hg w15 hbox hb; have BK209 := Aside0.mk (hbox); have GW209 := zg HB hg; replace HB := zh HB hb; clear hb hbox hg; obtain ⟨_, _, _, _⟩ := zc2 BK209))
          go_roundg k2
          case measure => have := HJ2.out; have := HK2.out; omega
          case rel => exact ⟨(wrap64 (x17_2 + 1)), zu, H', ⟨by have := HJ2.out; have := HK2.out; omega⟩, ⟨zy HB⟩⟩
        ·rw [if_neg c11] at H
         exact absurd H zU0_4
       ·rw [if_neg c10] at H
        exact absurd H zU0_4
      ·rw [if_neg c9] at H
       have c9b0 := decide_eq_false c9; clear c9
       obtain rfl := Option.some.inj H
       go_wp2
       go_ret
       exact ⟨zt, zy HB⟩


/-! ### spec_DarkPlaces: function 7 -/
mutual
def spec_DarkPlaces.j0 : Nat → Int → List (S39) → Int → Bool → Option (List Int × Bool)
 | 0, _, _, _, _ => none
 | k + 1, x0, x1, x2, x21 => if x21 = true then (some (([] : List Int), false)) else (spec_DarkPlaces.l0 k x0 x1 x2 ([] : List Int) 0)
def spec_DarkPlaces.l0 : Nat → Int → List (S39) → Int → List Int → Int → Option (List Int × Bool)
 | 0, _, _, _, _, _ => none
 | k + 1, x0, x1, x2, x8, x9 => if x9 ≤ x2 then (spec_DarkPlaces.l1 k x0 x1 x2 x8 x9 false x1 (x1.length : Int) 0) else (some (x8, true))
def spec_DarkPlaces.l1 : Nat → Int → List (S39) → Int → List Int → Int → Bool → List (S39) → Int → Int → Option (List Int × Bool)
 | 0, _, _, _, _, _, _, _, _, _ => none
 | k + 1, x0, x1, x2, x8, x9, x10, x27, x28, x29 => if x29 < x28 then (if 0 ≤ x29 then (if x29 < (x27.length : Int) then (if x10 = true then (spec_DarkPlaces.l1 k x0 x1 x2 x8 x9 true x27 x28 (wrap64 (x29 + 1))) else (if x9 > ((rd_T39 x27 x29).f0) then (spec_DarkPlaces.l1 k x0 x1 x2 x8 x9 (decide ((wrap64 (x9 * (wrap64 (x0 - ((rd_T39 x27 x29).f1))))) ≤ (wrap64 (((rd_T39 x27 x29).f0) * x0)))) x27 x28 (wrap64 (x29 + 1))) else (spec_DarkPlaces.l1 k x0 x1 x2 x8 x9 false x27 x28 (wrap64 (x29 + 1))))) else (none)) else (none)) else (if x10 = true then (if x8.length < 17592186044416 then (spec_DarkPlaces.l0 k x0 x1 x2 (x8 ++ [x9]) (wrap64 (x9 + 1))) else (none)) else (spec_DarkPlaces.l0 k x0 x1 x2 x8 (wrap64 (x9 + 1))))
end
def spec_DarkPlaces.f (k : Nat) (a0 : Int) (l1 : List (S39)) (a2 : Int) : Option (List Int × Bool) := (spec_swGood.f k a0 l1).bind fun t210 => (if t210 = true then ((spec_l1In.f a2 0 500).bind fun t211 => (spec_DarkPlaces.j0 k a0 l1 a2 (!t211))) else (spec_DarkPlaces.j0 k a0 l1 a2 true))
theorem spec_DarkPlaces.calls (k : Nat) (a0 : Int) (A1 : Option Addr) (c1 : Nat) (l1 : List (S39)) (a2 : Int) (r1 : List Int) (r2 : Bool) (w : World) (hr1 : Kd.C k39 w A1 l1.length l1) (hc1 : l1.length ≤ c1) (h : spec_DarkPlaces.f k a0 l1 a2 = some (r1, r2)) :
 Calls Tryz.prog 7 #[.int .i64 a0, .slice A1 l1.length c1, .int .i64 a2] w fun e w' => ∃ v0_ : Value, e = .returned (.tuple #[v0_, .bool r2]) ∧ Kd.R (Kd.int .i64) 3 w' w.heap.size (fun _ => True) v0_ r1 ∧ Below w.heap.size w w' := by
 have hu39 := Tryz.underlying39; have HR1 := Aside0.mk hr1; have HC1 := Aside0.mk hc1; clear hr1 hc1
 have HB := Aside0.mk (Below.refl w.heap.size w)
 have H := h; rw [spec_DarkPlaces.f] at H; clear h; have HC4 := Aside0.mk H; clear H
 go_enter Tryz.func7, Tryz.ntmps7
 go_upto_region 1 with (fail)
 go_cut [21] (fun v21 wc => ∃ (kq : Nat) (x21_3 : Bool), v21 = .bool x21_3 ∧ Aside0 (spec_DarkPlaces.j0 kq a0 l1 a2 x21_3 = some (r1, r2)) ∧ Aside0 (kq ≤ k) ∧ Aside0 (Below w.heap.size w wc))
 case first =>
  have H := HC4.out; clear HC4; obtain ⟨t210, A5, H⟩ := zB H; (try dsimp only at H)
  by_cases c6 : t210 = true
  ·subst c6
   rw [if_pos rfl] at H; obtain ⟨t211, A7, H⟩ := zB H; (try dsimp only at H); have H' := Aside0.mk H; clear H
   go_wp2_with (first | ((with_reducible refine gate_callee (f := 39) rfl ?_); refine zG (some 15) Tryz.func39 #[.int .i64 a0, .slice A1 l1.length c1] ?_; (with_reducible refine (spec_swGood.calls k a0 _ _ l1 true _ ?side1 ?side2 A5.out).mono ?_); (case side1 => exact zC HR1 HB); (case side2 => exact HC1.out); rintro e w8 ⟨rfl, hb⟩; refine ⟨_, rfl, ?_⟩; replace HB := zh HB hb; clear hb) | (go_at_call 40; (with_reducible refine (spec_l1In.calls a2 0 500 t211 _ A7.out).mono ?_); rintro e w' ⟨rfl, ⟨nd, rfl⟩⟩))
   go_meet
   case rel => exact ⟨_, (!t211), zu, H', ⟨by first | omega | exact Nat.le_refl _⟩, ⟨zy HB⟩⟩
  ·replace c6 := Bool.eq_false_iff.mpr c6
   subst c6; rw [if_neg (show ¬ (false = true) by decide)] at H; have H' := Aside0.mk H; clear H
   go_wp2_with (first | ((with_reducible refine gate_callee (f := 39) rfl ?_); refine zG (some 15) Tryz.func39 #[.int .i64 a0, .slice A1 l1.length c1] ?_; (with_reducible refine (spec_swGood.calls k a0 _ _ l1 false _ ?side1 ?side2 A5.out).mono ?_); (case side1 => exact zC HR1 HB); (case side2 => exact HC1.out); rintro e w9 ⟨rfl, hb⟩; refine ⟨_, rfl, ?_⟩; replace HB := zh HB hb; clear hb))
   go_meet
   case rel => exact ⟨_, (true), zu, H', ⟨by first | omega | exact Nat.le_refl _⟩, ⟨zy HB⟩⟩
 case rest =>
  clear HC4
  obtain ⟨kq, x21_3, rfl, HA, HJ3, HB⟩ := hcut
  cases kq with
  | zero => exact absurd HA.out (by simp [spec_DarkPlaces.j0])
  | succ kj3 =>
   have H := HA.out; clear HA; simp only [spec_DarkPlaces.j0] at H
   by_cases c10 : x21_3 = true
   ·subst c10
    rw [if_pos rfl] at H; simp only [Option.some.injEq, Prod.mk.injEq] at H; obtain ⟨rfl, rfl⟩ := H
    go_wp2
    go_ret2
    exact ⟨_, zt, by first | exact Kd.R_nil _ _ _ _ _ | exact Kd.N_nil _ _ _ _ _ | exact Kd.V_nil _ _ _ _ _ | exact Kd.Q_nil _ _ _ _ _ | exact Kd.S_nil _ _ _ _ _, zy HB⟩
   ·replace c10 := Bool.eq_false_iff.mpr c10
    subst c10; rw [if_neg (show ¬ (false = true) by decide)] at H; have H' := Aside0.mk H; clear H
    go_wp2
    go_loopg [8, 9] kj3 (fun kq v8 v9 w' => ∃ (x8_2 : List Int) (x9_2 : Int), v9 = .int .i64 x9_2 ∧ Aside0 (spec_DarkPlaces.l0 kq a0 l1 a2 x8_2 x9_2 = some (r1, r2)) ∧ Aside0 (kq ≤ kj3) ∧ Aside0 (Kd.R (Kd.int .i64) 3 w' w.heap.size (fun _ => True) v8 x8_2) ∧ Aside0 (Below w.heap.size w w'))
    case atStart => exact ⟨(([] : List Int)), (0), zu, H', ⟨Nat.le_refl _⟩, ⟨by first | exact Kd.R_nil _ _ _ _ _ | exact Kd.N_nil _ _ _ _ _ | exact Kd.V_nil _ _ _ _ _ | exact Kd.Q_nil _ _ _ _ _ | exact Kd.S_nil _ _ _ _ _⟩, ⟨zy HB⟩⟩
    case round =>
     clear H'
     obtain ⟨x8_2, x9_2, rfl, HA, HK2, HO_8, HB⟩ := hrel
     cases gk with
     | zero => exact absurd HA.out (by simp [spec_DarkPlaces.l0])
     | succ k2 =>
      have H := HA.out; clear HA; simp only [spec_DarkPlaces.l0] at H
      by_cases c11 : x9_2 ≤ a2
      ·rw [if_pos c11] at H
       have c11b0 := decide_eq_true c11; clear c11; have H' := Aside0.mk H; clear H
       go_wp2
       go_loopg [10, 29] k2 (fun kq v10 v29 w' => ∃ (x10_3 : Bool) (x29_3 : Int), v10 = .bool x10_3 ∧ v29 = .int .i64 x29_3 ∧ Aside0 (spec_DarkPlaces.l1 kq a0 l1 a2 x8_2 x9_2 x10_3 l1 (l1.length : Int) x29_3 = some (r1, r2)) ∧ Aside0 (kq ≤ k2) ∧ Aside0 (Kd.R (Kd.int .i64) 3 w' w.heap.size (fun _ => True) u8 x8_2) ∧ Aside0 (Below w.heap.size w w'))
       case atStart => exact ⟨(false), (0), zu, zu, H', ⟨Nat.le_refl _⟩, zp HO_8, ⟨zy HB⟩⟩
       case round =>
        clear H'
        obtain ⟨x10_3, x29_3, rfl, rfl, HA, HK3, HO_8, HB⟩ := hrel
        cases gk with
        | zero => exact absurd HA.out (by simp [spec_DarkPlaces.l1])
        | succ k3 =>
         have H := HA.out; clear HA; simp only [spec_DarkPlaces.l1] at H
         by_cases c12 : x29_3 < (l1.length : Int)
         ·rw [if_pos c12] at H
          have c12b0 := decide_eq_true c12; clear c12
          by_cases c13 : 0 ≤ x29_3
          ·rw [if_pos c13] at H
           have c13b0 := decide_eq_true c13; clear c13
           by_cases c14 : x29_3 < (l1.length : Int)
           ·rw [if_pos c14] at H
            have c14b0 := decide_eq_true c14; clear c14
            by_cases c15 : x10_3 = true
            ·subst c15
             rw [if_pos rfl] at H; have H' := Aside0.mk H; clear H
             have p212 : 0 ≤ (x29_3 : Int) := of_decide_eq_true zU0_1
             have q212 : x29_3 < (l1.length : Int) := of_decide_eq_true zU0_1
             obtain ⟨ad212, e212, hx212_0, hx212_1⟩ := at_T39 HR1.out x29_3 p212 q212
             cases e212
             replace hx212_0 := (HB.out.cell (World.block_lt_of_cell? w _ hx212_0)).trans hx212_0
             replace hx212_1 := (HB.out.cell (World.block_lt_of_cell? w _ hx212_1)).trans hx212_1
             replace p212 := eq_true p212; replace q212 := eq_true q212
             go_wp2_with (first | ((with_reducible refine gate_dst (N := 12) rfl ?_); refine zE 12 #[.int .i64 0, .int .i64 0] 39 ?_; intro gb213 hg w16 hbox hb; have BK213 := Aside0.mk (hbox); have GW213 := zg HB hg; replace HO_8 := zo HO_8 hb; replace HB := zh HB hb; clear hb hbox hg; obtain ⟨_, _, _, _⟩ := zc2 BK213))
             go_roundg k3
             case measure => have := HJ3.out; have := HK2.out; have := HK3.out; omega
             case rel => exact ⟨(true), (wrap64 (x29_3 + 1)), zu, zu, H', ⟨by have := HJ3.out; have := HK2.out; have := HK3.out; omega⟩, ⟨by (with_reducible repeat (first | apply Kd.R_alloc | apply Kd.R_drewN | apply Kd.R_drew)); exact Kd.R_mono (Kd.R_far (p := ⟨gb213, 1, none⟩) (Kd.R_far (p := ⟨gb213, 0, none⟩) (Kd.R_types HO_8.out BK213.out (by decide)) (fun _ hk => hk.2) (.int .i64 ((rd_T39 l1 x29_3).f0))) (fun _ hk => hk.2) (.int .i64 ((rd_T39 l1 x29_3).f1))) (fun _ hk => trivial)⟩, ⟨zy HB⟩⟩
            ·replace c15 := Bool.eq_false_iff.mpr c15
             subst c15; rw [if_neg (show ¬ (false = true) by decide)] at H
             by_cases c18 : x9_2 > ((rd_T39 l1 x29_3).f0)
             ·rw [if_pos c18] at H
              have c18b0 := decide_eq_true c18; clear c18; have H' := Aside0.mk H; clear H
              have p212 : 0 ≤ (x29_3 : Int) := of_decide_eq_true zU0_1
              have q212 : x29_3 < (l1.length : Int) := of_decide_eq_true zU0_1
              obtain ⟨ad212, e212, hx212_0, hx212_1⟩ := at_T39 HR1.out x29_3 p212 q212
              cases e212
              replace hx212_0 := (HB.out.cell (World.block_lt_of_cell? w _ hx212_0)).trans hx212_0
              replace hx212_1 := (HB.out.cell (World.block_lt_of_cell? w _ hx212_1)).trans hx212_1
              replace p212 := eq_true p212; replace q212 := eq_true q212
              go_wp2_with (first | ((with_reducible refine gate_dst (N := 12) rfl ?_); refine zE 12 #[.int .i64 0, .int .i64 0] 39 ?_; intro gb213 hg w19 hbox hb; have BK213 := Aside0.mk (hbox); have GW213 := zg HB hg; replace HO_8 := zo HO_8 hb; replace HB := zh HB hb; clear hb hbox hg; obtain ⟨_, _, _, _⟩ := zc2 BK213))
              go_roundg k3
              case measure => have := HJ3.out; have := HK2.out; have := HK3.out; omega
              case rel => exact ⟨(decide ((wrap64 (x9_2 * (wrap64 (a0 - ((rd_T39 l1 x29_3).f1))))) ≤ (wrap64 (((rd_T39 l1 x29_3).f0) * a0)))), (wrap64 (x29_3 + 1)), zu, zu, H', ⟨by have := HJ3.out; have := HK2.out; have := HK3.out; omega⟩, ⟨by (with_reducible repeat (first | apply Kd.R_alloc | apply Kd.R_drewN | apply Kd.R_drew)); exact Kd.R_mono (Kd.R_far (p := ⟨gb213, 1, none⟩) (Kd.R_far (p := ⟨gb213, 0, none⟩) (Kd.R_types HO_8.out BK213.out (by decide)) (fun _ hk => hk.2) (.int .i64 ((rd_T39 l1 x29_3).f0))) (fun _ hk => hk.2) (.int .i64 ((rd_T39 l1 x29_3).f1))) (fun _ hk => trivial)⟩, ⟨zy HB⟩⟩
             ·rw [if_neg c18] at H
              have c18b0 := decide_eq_false c18; clear c18; have H' := Aside0.mk H; clear H
              have p212 : 0 ≤ (x29_3 : Int) := of_decide_eq_true zU0_1
              have q212 : x29_3 < (l1.length : Int) := of_decide_eq_true zU0_1
              obtain ⟨ad212, e212, hx212_0, hx212_1⟩ := at_T39 HR1.out x29_3 p212 q212
              cases e212
              replace hx212_0 := (HB.out.cell (World.block_lt_of_cell? w _ hx212_0)).trans hx212_0
              replace hx212_1 := (HB.out.cell (World.block_lt_of_cell? w _ hx212_1)).trans hx212_1
              replace p212 := eq_true p212; replace q212 := eq_true q212
              go_wp2_with (first | ((with_reducible refine gate_dst (N := 12) rfl ?_); refine zE 12 #[.int .i64 0, .int .i64 0] 39 ?_; intro gb213 hg w21 hbox hb; have BK213 := Aside0.mk (hbox); have GW213 := zg HB hg; replace HO_8 := zo HO_8 hb; replace HB := zh HB hb; clear hb hbox hg; obtain ⟨_, _, _, _⟩ := zc2 BK213))
              go_roundg k3
              case measure => have := HJ3.out; have := HK2.out; have := HK3.out; omega
              case rel => exact ⟨(false), (wrap64 (x29_3 + 1)), zu, zu, H', ⟨by have := HJ3.out; have := HK2.out; have := HK3.out; omega⟩, ⟨by (with_reducible repeat (first | apply Kd.R_alloc | apply Kd.R_drewN | apply Kd.R_drew)); exact Kd.R_mono (Kd.R_far (p := ⟨gb213, 1, none⟩) (Kd.R_far (p := ⟨gb213, 0, none⟩) (Kd.R_types HO_8.out BK213.out (by decide)) (fun _ hk => hk.2) (.int .i64 ((rd_T39 l1 x29_3).f0))) (fun _ hk => hk.2) (.int .i64 ((rd_T39 l1 x29_3).f1))) (fun _ hk => trivial)⟩, ⟨zy HB⟩⟩
           ·rw [if_neg c14] at H
            exact absurd H zU0_4
          ·rw [if_neg c13] at H
           exact absurd H zU0_4
         ·rw [if_neg c12] at H
          have c12b0 := decide_eq_false c12; clear c12
          by_cases c23 : x10_3 = true
          ·subst c23
           rw [if_pos rfl] at H
           by_cases c24 : x8_2.length < 17592186044416
           ·rw [if_pos c24] at H
            have LMc24 := Aside0.mk c24; clear c24
            obtain ⟨y214, hy214⟩ : ∃ y_ : List Int, y_ = (x8_2 ++ [x9_2]) := ⟨_, rfl⟩
            replace H : (spec_DarkPlaces.l0 k3 a0 l1 a2 y214 (wrap64 (x9_2 + 1))) = some (r1, r2) := by first | (rw [hy214]; with_reducible exact H) | (have H2_ := (Option.bind_some _ _).symm.trans H; rw [hy214]; with_reducible exact H2_) | (have H2_ := (Option.bind_some _ _).symm.trans H; with_reducible exact H2_) | with_reducible exact H | (rw [hy214]; exact H) | exact H
            have Ny214 := Aside0.mk hy214; clear hy214; have H' := Aside0.mk H; clear H
            go_wp2_with (first | ((with_reducible refine gate_builtin (b := .append) (xs := #[.tmp 55, .tmp 57]) rfl ?_); at_builtin; refine Kd.R_append (Kd.int .i64) (w0 := w) w.heap.size rfl (.tmp 55) (.tmp 57) 27 3 (.int .i64 0) 8 rfl Tryz.underlying27 info3 rfl (by decide) zU0_3 u8 x8_2 x9_2 [.int .i64 x9_2] (fun _ => True) (fun _ => False) rfl rfl ?aP (fun _ hk => hk.elim) ?aF ?aO ?aB ?aS ?aL ?_; (case aP => exact rfl); (case aB => exact (zy HB)); (case aF => exact (fun _ _ => trivial)); (case aO => exact (zs HO_8)); (case aS => exact (below_size (zy HB))); (case aL => have := LMc24.out; omega); intro v215 w25 ho hb hg hat; rw [← Ny214.out] at ho; have HO216 := Aside0.mk (ho); replace HB := Aside0.mk hb; clear HO_8; clear ho hb hg hat))
            go_roundg k3
            case measure => have := HJ3.out; have := HK2.out; have := HK3.out; omega
            case rel => exact ⟨(y214), (wrap64 (x9_2 + 1)), zu, H', ⟨by have := HJ3.out; have := HK2.out; have := HK3.out; omega⟩, zp HO216, ⟨zy HB⟩⟩
           ·rw [if_neg c24] at H
            exact absurd H zU0_4
          ·replace c23 := Bool.eq_false_iff.mpr c23
           subst c23; rw [if_neg (show ¬ (false = true) by decide)] at H; have H' := Aside0.mk H; clear H
           go_wp2
           go_roundg k3
           case measure => have := HJ3.out; have := HK2.out; have := HK3.out; omega
           case rel => exact ⟨(x8_2), (wrap64 (x9_2 + 1)), zu, H', ⟨by have := HJ3.out; have := HK2.out; have := HK3.out; omega⟩, zp HO_8, ⟨zy HB⟩⟩
      ·rw [if_neg c11] at H
       have c11b0 := decide_eq_false c11; clear c11; simp only [Option.some.injEq, Prod.mk.injEq] at H; obtain ⟨rfl, rfl⟩ := H
       go_wp2
       go_ret2
       exact ⟨_, zt, by (with_reducible repeat (first | apply Kd.R_alloc | apply Kd.R_drewN | apply Kd.R_drew)); exact HO_8.out, zy HB⟩


/-! ### impl_isHidden: function 41 -/
def impl_isHidden.f (a0 : Int) (a1_0 : Int) (a1_1 : Int) (a2_0 : Int) (a2_1 : Int) : Option (Bool) := if a2_0 > a1_0 then (some (decide ((wrap64 (a2_1 * a1_0)) ≤ (wrap64 ((wrap64 (a0 * a1_0)) - (wrap64 ((wrap64 (a0 - a1_1)) * a2_0))))))) else (some false)
theorem impl_isHidden.calls (a0 : Int) (a1_0 : Int) (a1_1 : Int) (a2_0 : Int) (a2_1 : Int) (r : Bool) (w : World) (h : impl_isHidden.f a0 a1_0 a1_1 a2_0 a2_1 = some r) :
 Calls Tryz.prog 41 #[.int .i64 a0, .agg #[.int .i64 a1_0, .int .i64 a1_1], .agg #[.int .i64 a2_0, .int .i64 a2_1]] w fun e w' => e = .returned (.bool r) ∧ Below w.heap.size w w' := by
 have hu39 := Tryz.underlying39
 have HB := Aside0.mk (Below.refl w.heap.size w)
 have H := h; rw [impl_isHidden.f] at H; clear h
 by_cases c4 : a2_0 > a1_0
 ·rw [if_pos c4] at H
  have c4b0 := decide_eq_true c4; clear c4
  obtain rfl := Option.some.inj H
  go_enter Tryz.func41, Tryz.ntmps41
  go_wp2_with (first | ((with_reducible refine gate_dst (N := 4) rfl ?_); refine zE 4 #[.int .i64 a1_0, .int .i64 a1_1] 39 ?_; intro gb217 hg w5 hbox hb; have BK217 := Aside0.mk (hbox); have GW217 := zg HB hg; replace HB := zh HB hb; clear hb hbox hg) | ((with_reducible refine gate_dst (N := 5) rfl ?_); refine zE 5 #[.int .i64 a2_0, .int .i64 a2_1] 39 ?_; intro gb218 hg w6 hbox hb; have BK218 := Aside0.mk (hbox); have GW218 := zg HB hg; have NB217_218 := zl BK217 hg; have NB218_217 := zr BK217 hg; replace BK217 := zb BK217 hb; replace HB := zh HB hb; clear hb hbox hg; have hnb7 := NB218_217.out; have hnc7 := NB217_218.out; obtain ⟨_, _, _, _⟩ := zc2 BK218; obtain ⟨_, _, _, _⟩ := zc2 BK217))
  go_ret
  exact ⟨zt, zy HB⟩
 ·rw [if_neg c4] at H
  have c4b0 := decide_eq_false c4; clear c4
  obtain rfl := Option.some.inj H
  go_enter Tryz.func41, Tryz.ntmps41
  go_wp2_with (first | ((with_reducible refine gate_dst (N := 4) rfl ?_); refine zE 4 #[.int .i64 a1_0, .int .i64 a1_1] 39 ?_; intro gb217 hg w10 hbox hb; have BK217 := Aside0.mk (hbox); have GW217 := zg HB hg; replace HB := zh HB hb; clear hb hbox hg) | ((with_reducible refine gate_dst (N := 5) rfl ?_); refine zE 5 #[.int .i64 a2_0, .int .i64 a2_1] 39 ?_; intro gb218 hg w11 hbox hb; have BK218 := Aside0.mk (hbox); have GW218 := zg HB hg; have NB217_218 := zl BK217 hg; have NB218_217 := zr BK217 hg; replace BK217 := zb BK217 hb; replace HB := zh HB hb; clear hb hbox hg; have hnb12 := NB218_217.out; have hnc12 := NB217_218.out; obtain ⟨_, _, _, _⟩ := zc2 BK218; obtain ⟨_, _, _, _⟩ := zc2 BK217))
  go_ret
  exact ⟨zt, zy HB⟩

end Go.Proofs.YtknjpbkkbnmfaaaGreatDoor.P
