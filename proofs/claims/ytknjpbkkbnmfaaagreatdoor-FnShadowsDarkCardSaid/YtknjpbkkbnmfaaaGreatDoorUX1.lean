/- A part of the proof of the law laws_FnShadowsDark: what follows from one point of its walk on. Every input that the given rows speak of; nothing else is asked. -/
import Derived.Test.YtknjpbkkbnmfaaaGreatDoorUX0
set_option maxHeartbeats 8000000
set_option maxRecDepth 100000
set_option linter.unusedVariables false
namespace Go.Proofs.YtknjpbkkbnmfaaaGreatDoor.P
open Go.RowKit Go.Proofs.YtknjpbkkbnmfaaaGreatDoorW.PrintWords Go.Proofs.YtknjpbkkbnmfaaaGreatDoorW.PrintLast Go.Proofs.YtknjpbkkbnmfaaaGreatDoorW.PrintMore
attribute [local go_sem] max2_int min2_int max_two min_two max_three min_three max_four min_four   -- for this text's walks alone
set_option linter.unusedVariables false
set_option linter.unusedSimpArgs false
attribute [local go_sem high] zandFnShadowsDark
attribute [local simp high] zandFnShadowsDark
attribute [local go_sem] zset2
attribute [local go_sem high] zcellD zfrozenD
attribute [local simp high] zcellD zfrozenD
set_option maxHeartbeats 60000000 in
set_option maxRecDepth 100000 in
theorem laws_FnShadowsDark.part0 (k : Nat) (A0 : Option Addr) (c0 : Nat) (l0 : List Int) (A1 : Option Addr) (c1 : Nat) (l1 : List Int) (w : World) : (laws_FnShadowsDark.parts k A0 c0 l0 A1 c1 l1 w).1.1 := by
  intro r HR_ HL_ hu39 HR0 HC0 HR1 HC1 y_8 A3 y_10 t538 t539 t540 A5 y_15 t543 t544 A6 y_19 t547 t548 A7 y_23 t551 t555 t556 A9 t559 t560 A10 t561 t562 A11 t563 t564 t565 A12 t566 t567 t568 A13 y_42 nd y_44 w15 co16 w17 v545 w18 v549 w19 v553 w20 v557 w21 w22 w23 w24 HO546 HO550 HO554 HO558 y_63 y_64 y_65 y_66 y_67 y_68 y_69 y_70 y_71 y_72 y_73 y_74 y_75 y_76 y_77 y_78 y_79 y_80 y_81 y_82 y_83 y_84 y_85 y_86 y_87 y_88 y_89 y_90 y_91 y_92 y_93 y_94 y_95 y_96 y_97 y_98 y_99 y_100 y_101 y_102 y_103 y_104 y_105 y_106 y_107 y_108 y_109 y_110 y_111 y_112 y_113 y_114 y_115 y_116 y_117 y_118 y_119 y_120 y_121 y_122 y_123 y_124 y_125 y_126 y_127 y_128 y_129 y_130 y_131 y_132 y_133 y_134 y_135 y_136 y_137 y_138 y_139 y_140 y_141 y_142 y_143 y_144 y_145 y_146 y_147 y_148 y_149 y_150 y_151 y_152 y_153 y_154 y_155 y_156 y_157 y_158 y_159 y_160 y_161 y_162 y_163 y_164 y_165 y_166 y_167 y_168 y_169 y_170 y_171 y_172 y_173 y_174 y_175 y_176 y_177 y_178 y_179 y_180 y_181 y_182 y_183 y_184 y_185 y_186 y_187 y_188 y_189 y_190 y_191 y_192 y_193 y_194 y_195 y_196 y_197 y_198 y_199 y_200 y_201 y_202 y_203 y_204 y_205 y_206 y_207 y_208 y_209 y_210 y_211 y_212 y_213 y_214 y_215 y_216 y_217 y_218 y_219 y_220 y_221 y_222 y_223 u241 y_225 y_226 y_227 y_228 y_229 y_230 y_231 y_232 y_233 y_234 y_235 y_236 y_237 y_238 y_239 y_240 y_241 y_242 y_243 y_244 y_245 y_246 y_247 y_248 y_249 y_250 y_251 y_252 y_253 y_254 y_255 y_256 y_257 y_258 y_259 y_260 y_261 y_262 y_263 y_264 y_265 y_266 y_267 y_268 y_269 y_270 y_271 y_272 y_273 y_274 y_275 y_276 y_277 y_278 y_279 y_280 y_281 y_282 y_283 y_284 y_285 y_286 y_287 y_288 y_289 y_290 y_291 y_292 y_293 y_294 y_295 y_296 y_297 y_298 y_299 y_300 y_301 y_302 y_303 y_304 y_305 y_306 y_307 y_308 y_309 y_310 y_311 y_312 y_313 y_314 y_315 y_316 y_317 y_318 y_319 y_320 y_321 y_322 y_323 y_324 y_325 y_326 y_327 y_328 y_329 y_330 y_331 y_332 y_333 y_334 y_335 y_336 y_337 y_338 y_339 y_340 y_341 y_342 y_343 y_344 y_345 y_346 y_347 y_348 y_349 y_350 y_351 y_352 y_353 y_354 y_355 y_356 y_357 y_358 y_359 y_360 y_361 y_362 y_363 y_364 y_365 y_366 y_367 y_368 y_369 y_370 y_371 y_372 y_373 y_374 y_375 y_376 y_377 y_378 y_379 y_380 y_381 y_382 y_383 y_384 y_385 y_386 y_387 y_388 y_389 y_390 y_391 y_392 y_393 y_394 y_395 y_396 y_397 y_398 y_399 y_400 y_401 y_402 y_403 y_404 y_405 y_406 y_407 y_408 y_409 y_410 y_411 y_412 y_413 y_414 y_415 y_416 y_417 y_418 y_419 y_420 y_421 y_422 y_423 y_424 y_425 y_426 y_427 y_428 y_429 y_430 y_431 y_432 y_433 y_434 y_435 y_436 y_437 y_438 y_439 y_440 y_441 y_442 y_443 y_444 y_445 y_446 y_447 y_448 y_449 y_450 y_451 y_452 y_453 y_454 y_455 y_456 y_457 y_458 y_459 y_460 y_461 y_462 y_463 y_464 y_465 y_466 y_467 y_468 y_469 y_470 y_471 y_472 y_473 y_474 y_475 y_476 y_477 y_478 y_479 y_480 y_481 y_482 y_483 y_484 y_485 y_486 y_487 y_488 y_489 y_490 y_491 y_492 y_493 y_494 y_495 y_496 y_497 y_498 y_499 y_500 y_501 y_502 y_503 y_504 y_505 y_506 y_507 y_508 y_509 y_510 y_511 y_512 y_513 y_514 y_515 y_516 y_517 y_518 y_519 y_520 y_521 y_522 y_523 y_524 y_525 kj13 HJ13 y_528 y_529 y_530 y_531 y_532 A8 y_534 y_535 y_536 y_537 y_538 H c115b0 c116b0 t575 t576 t577 A117 ad574 hx574_0 hx574_1 HO542 y_550 p574 q574 w119 y_554 y_555 y_556 y_557 y_558 y_559 y_560 y_561 wc u81 u82 u83 u84 u85 u86 u87 u88 u89 u90 u91 u92 u93 u94 u95 u96 u97 u98 u99 u100 u101 u102 u103 u104 u105 u106 u107 u108 u109 u110 u111 u112 u113 u114 u115 u116 u117 u118 u119 u120 u121 u122 u123 u124 u125 u126 u127 u128 u129 u130 u131 u132 u133 u134 u135 u136 u137 u138 u139 u140 u141 u142 u143 u144 u145 u146 u147 u148 u149 u150 u151 u152 u153 u154 u155 u156 u157 u158 u159 u160 u161 u162 u163 u164 u165 u166 u167 u168 u169 u170 u171 u172 u173 u174 u175 u176 u177 u178 u179 u180 u181 u182 u183 u184 u185 u186 u187 u188 u189 u190 u191 u192 u193 u194 u195 u196 u197 u198 u199 u200 u201 u202 u203 u204 u205 u206 u207 u208 u209 u210 u211 u212 u213 u214 u215 u216 u217 u218 u219 u220 u221 u222 u223 u224 u225 u226 u227 u228 u229 u230 u231 u232 u233 u234 u235 u236 u237 u238 u239 u240 u245 u246 u247 u248 u249 u250 u251 u252 u253 u254 u255 u256 u257 u258 u259 u260 u261 u262 u263 u264 u265 u266 u267 u268 u269 u270 u271 u272 u273 u274 u275 u276 u277 u278 u279 u280 u281 u282 u283 u284 u285 u286 u287 u288 u289 u290 u291 u292 u293 u294 u295 u296 u297 u298 u299 u300 u301 u302 u303 u304 u305 u306 u307 u308 u309 u310 u311 u312 u313 u317 u318 u319 u320 u321 u322 u323 u324 u325 u326 u327 u328 u329 u330 u331 u332 u333 u334 u335 u336 u337 u338 u339 u340 u341 u342 u343 u344 u345 u346 u347 u348 u349 u350 u351 u355 u356 u357 u358 u359 u360 u361 u362 u363 u364 u365 u366 u367 u368 u369 u370 u371 u372 u373 u374 u375 u376 u377 u378 u379 u380 u381 u382 u383 u384 u385 u386 u387 u388 u389 u390 u391 u392 u393 u394 u395 u396 u397 u398 u399 u400 u401 u402 u403 u404 u405 u406 u407 u408 u409 u410 u411 u412 u413 u414 u415 u416 u417 u418 u419 u420 u421 u422 u423 u424 u425 u426 u427 u428 u429 u430 u431 u432 u433 u434 u435 u436 u437 u438 u439 u440 u441 u442 u443 u444 u445 u446 u447 u448 u449 u450 u451 u452 u453 u454 u455 u456 u457 u458 u459 u460 u461 u462 u463 u464 u465 u466 u467 u468 u469 u470 u471 u472 u473 u474 u475 u476 u477 u478 u479 u480 u481 u482 u483 u484 u485 u489 u490 u491 u492 u493 u494 u495 u496 u497 u498 u499 u500 u501 u502 u503 u504 u505 u506 u507 u508 u509 u510 u511 u512 u513 u514 u515 u516 u517 u518 u519 u520 u521 u522 u523 u524 u525 u526 u527 u528 u529 u530 u531 u532 u533 u534 u535 u536 u537 u538 u539 u540 u541 u542 u543 u544 u545 u546 u547 u548 u549 u550 u551 u552 u553 u554 HO_6 HO_8 HO_12 HB kj117 HJ117 H'
  go_wp2
  go_loopg [26, 244] kj117 (fun kq v26 v244 w' => ∃ (x26_3 : Bool) (x244_3 : Int), v26 = .bool x26_3 ∧ v244 = .int .i64 x244_3 ∧ Aside0 (laws_FnShadowsDark.l0 kq l1 t538 t539 t540 t543 t544 t551 t559 t563 t564 x26_3 t575 t576 t539 (t539.length : Int) x244_3 = some r) ∧ Aside0 (kq ≤ kj117) ∧ Aside0 (Kd.R k39 39 w' w.heap.size (fun _ => True) (.slice (some ad574) t539.length co16) t539) ∧ Aside0 (Kd.R (Kd.int .i64) 3 w' w.heap.size (fun k_ => some k_ ≠ (v553 : Value).ownBlock) v545 t543) ∧ Aside0 (Kd.R (Kd.int .i64) 3 w' w.heap.size (fun k_ => some k_ ≠ (v545 : Value).ownBlock) v553 t551) ∧ Aside0 (Kd.R k39 39 w' w.heap.size (fun _ => True) (.slice (some ad574) t539.length co16) t539) ∧ Aside0 (Below w.heap.size w w'))
  case atStart => exact ⟨(false), (0), zu, zu, H', ⟨Nat.le_refl _⟩, zp HO_6, zp HO_8, zp HO_12, zp HO_6, ⟨zy HB⟩⟩
  case round =>
   clear H'
   obtain ⟨x26_3, x244_3, rfl, rfl, HA, HK3, HO_6, HO_8, HO_12, HO_242, HB⟩ := hrel
   cases gk with
   | zero => exact absurd HA.out (by simp [laws_FnShadowsDark.l0])
   | succ k3 =>
    have H := HA.out; clear HA; simp only [laws_FnShadowsDark.l0] at H
    by_cases c127 : x244_3 < (t539.length : Int)
    ·rw [if_pos c127] at H
     have c127b0 := decide_eq_true c127; clear c127
     by_cases c128 : 0 ≤ x244_3
     ·rw [if_pos c128] at H
      have c128b0 := decide_eq_true c128; clear c128
      by_cases c129 : x244_3 < (t539.length : Int)
      ·rw [if_pos c129] at H
       have c129b0 := decide_eq_true c129; clear c129; obtain ⟨⟨t582, t583, t584⟩, A130, H⟩ := zB H; (try dsimp only at H); obtain ⟨⟨t585, t586, t587⟩, A131, H⟩ := zB H; (try dsimp only at H); have HC132 := Aside0.mk H; clear H
       have p580 : 0 ≤ (x244_3 : Int) := of_decide_eq_true zU3_5
       have q580 : x244_3 < (t539.length : Int) := of_decide_eq_true zU3_5
       obtain ⟨ad580, e580, hx580_0, hx580_1⟩ := at_T39 (Kd.R_reads' HO_242.out).2.2 x244_3 p580 q580
       obtain rfl : ad574 = ad580 := (by injection e580)
       replace p580 := eq_true p580; replace q580 := eq_true q580
       as_aux_lemma =>
        go_upto_region 24 with (first | ((with_reducible refine gate_dst (N := 31) rfl ?_); (try (refine gate_guard (by rfl) ?_; dsimp only)); refine zE 31 #[.int .i64 0, .int .i64 0] 39 ?_; intro gb581 hg w133 hbox hb; have n0_ := Aside0.mk (Kd.R_below (Kd.R_elderB (zs HO_6) gb581 (Nat.le_of_eq hg.symm)) hb); have n3_ := Aside0.mk (Kd.R_below (Kd.R_elderB (zs HO_242) gb581 (Nat.le_of_eq hg.symm)) hb); have BK581 := Aside0.mk (hbox); have GW581 := zg HB hg; replace HO_8 := zo HO_8 hb; replace HO_12 := zo HO_12 hb; replace HB := zh HB hb; clear HO_6; have HO_6 := n0_; clear n0_; clear HO_242; have HO_242 := n3_; clear n3_; clear hb hbox hg; replace hz581 := zc2 BK581) | ((with_reducible refine gate_callee (f := 20) rfl ?_); refine zG (some 252) Tryz.func20 #[.int .i64 t538, .agg #[.int .i64 ((rd_T39 t539 x244_3).f0), .int .i64 ((rd_T39 t539 x244_3).f1)]] ?_; (with_reducible refine (impl_ShadowEnd.calls k3 t538 ((rd_T39 t539 x244_3).f0) ((rd_T39 t539 x244_3).f1) t582 t583 t584 _ A130.out).mono ?_); rintro e w135 ⟨rfl, hb⟩; refine ⟨_, rfl, ?_⟩; have n0_ := Aside0.mk (Kd.R_below (zrp (Kd.R_mono (Kd.R_far (p := ⟨gb581, 1, none⟩) (Kd.R_far (p := ⟨gb581, 0, none⟩) (Kd.R_mono HO_6.out (fun k_ hk => (⟨hk, hk.2⟩ : _ ∧ k_ ≠ gb581))) (fun _ hk => hk.2) (.int .i64 ((rd_T39 t539 x244_3).f0))) (fun _ hk => hk.2) (.int .i64 ((rd_T39 t539 x244_3).f1))) (fun _ h_ => h_.1))) hb); have n1_ := Aside0.mk (Kd.R_below (zrp (Kd.R_mono (Kd.R_far (p := ⟨gb581, 1, none⟩) (Kd.R_far (p := ⟨gb581, 0, none⟩) (Kd.R_types HO_8.out BK581.out (by decide)) (fun _ hk => hk.2) (.int .i64 ((rd_T39 t539 x244_3).f0))) (fun _ hk => hk.2) (.int .i64 ((rd_T39 t539 x244_3).f1))) (fun _ h_ => h_.1))) hb); have n2_ := Aside0.mk (Kd.R_below (zrp (Kd.R_mono (Kd.R_far (p := ⟨gb581, 1, none⟩) (Kd.R_far (p := ⟨gb581, 0, none⟩) (Kd.R_types HO_12.out BK581.out (by decide)) (fun _ hk => hk.2) (.int .i64 ((rd_T39 t539 x244_3).f0))) (fun _ hk => hk.2) (.int .i64 ((rd_T39 t539 x244_3).f1))) (fun _ h_ => h_.1))) hb); have n3_ := Aside0.mk (Kd.R_below (zrp (Kd.R_mono (Kd.R_far (p := ⟨gb581, 1, none⟩) (Kd.R_far (p := ⟨gb581, 0, none⟩) (Kd.R_mono HO_242.out (fun k_ hk => (⟨hk, hk.2⟩ : _ ∧ k_ ≠ gb581))) (fun _ hk => hk.2) (.int .i64 ((rd_T39 t539 x244_3).f0))) (fun _ hk => hk.2) (.int .i64 ((rd_T39 t539 x244_3).f1))) (fun _ h_ => h_.1))) hb); have n4_ := Aside0.mk (blk_below (g := gb581) (o := .cells #[.int .i64 ((rd_T39 t539 x244_3).f0), .int .i64 ((rd_T39 t539 x244_3).f1)] 39 (0, 0)) (zw BK581) hb); replace HB := zh HB hb; clear HO_6; have HO_6 := n0_; clear n0_; clear HO_8; have HO_8 := n1_; clear n1_; clear HO_12; have HO_12 := n2_; clear n2_; clear HO_242; have HO_242 := n3_; clear n3_; clear BK581; have BK581 := n4_; clear n4_; clear hb; replace hz581 := zc2 BK581) | ((with_reducible refine gate_callee (f := 17) rfl ?_); refine zG (some 259) Tryz.func17 #[.int .i64 t538, .agg #[.int .i64 ((rd_T39 t539 x244_3).f0), .int .i64 ((rd_T39 t539 x244_3).f1)]] ?_; (with_reducible refine (impl_ShadowLength.calls k3 t538 ((rd_T39 t539 x244_3).f0) ((rd_T39 t539 x244_3).f1) t585 t586 t587 _ A131.out).mono ?_); rintro e w137 ⟨rfl, hb⟩; refine ⟨_, rfl, ?_⟩; replace HO_6 := zo HO_6 hb; replace HO_8 := zo HO_8 hb; replace HO_12 := zo HO_12 hb; replace HO_242 := zo HO_242 hb; replace BK581 := zb BK581 hb; replace HB := zh HB hb; clear hb))
        (try simp only [Act.put, List.setIfInBounds_toArray, List.set_cons_zero, List.set_cons_succ])
        go_cut [300] (fun v300 wc => ∃ (kq : Nat) (x300_131 : Bool), v300 = .bool x300_131 ∧ Aside0 (laws_FnShadowsDark.j3 kq l1 t538 t539 t540 t543 t544 t551 t559 t563 t564 x26_3 t575 t576 x244_3 t582 t583 t539 (t539.length : Int) x244_3 x300_131 ((rd_T39 t539 x244_3).f0) ((rd_T39 t539 x244_3).f1) = some r) ∧ Aside0 (kq ≤ k3) ∧ Aside0 (Kd.R k39 39 wc w.heap.size (fun k_ => k_ ≠ gb581) (.slice (some ad574) t539.length co16) t539) ∧ Aside0 (Kd.R (Kd.int .i64) 3 wc w.heap.size (fun k_ => some k_ ≠ (v553 : Value).ownBlock) v545 t543) ∧ Aside0 (Kd.R (Kd.int .i64) 3 wc w.heap.size (fun k_ => some k_ ≠ (v545 : Value).ownBlock) v553 t551) ∧ Aside0 (Kd.R k39 39 wc w.heap.size (fun k_ => k_ ≠ gb581) (.slice (some ad574) t539.length co16) t539) ∧ Aside0 (wc.heap[gb581]? = some (.cells #[.int .i64 ((rd_T39 t539 x244_3).f0), .int .i64 ((rd_T39 t539 x244_3).f1)] 39 (0, 0))) ∧ Aside0 (Below w.heap.size w wc))
        case first =>
         have H := HC132.out; clear HC132
         by_cases c138 : t584 = true
         ·subst c138
          rw [if_pos rfl] at H
          by_cases c139 : (wrap64 (t582 * t564)) > (wrap64 (t563 * t583))
          ·rw [if_pos c139] at H
           have c139b0 := decide_eq_true c139; clear c139
           (first | rw [c139b0] | (simp only [i64_w, i32_w]; rw [c139b0]) | skip)
           exact absurd (HR_.out.symm.trans (laws_FnShadowsDark.j3_true _ _ _ _ _ _ _ _ _ _ _ _ _ _ _ _ _ _ _ _ _ _ _ H)) (by decide)
          ·rw [if_neg c139] at H
           have c139b0 := decide_eq_false c139; clear c139
           (first | rw [c139b0] | (simp only [i64_w, i32_w]; rw [c139b0]) | skip)
           by_cases c140 : t587 = true
           ·subst c140
            rw [if_pos rfl] at H
            by_cases c141 : (wrap64 (t585 * t576)) > (wrap64 (t575 * t586))
            ·rw [if_pos c141] at H
             have c141b0 := decide_eq_true c141; clear c141
             exact absurd (HR_.out.symm.trans (laws_FnShadowsDark.j3_true _ _ _ _ _ _ _ _ _ _ _ _ _ _ _ _ _ _ _ _ _ _ _ H)) (by decide)
            ·rw [if_neg c141] at H
             have c141b0 := decide_eq_false c141; clear c141
             by_cases c142 : (wrap64 (t585 * t576)) = (wrap64 (t575 * t586))
             ·rw [if_pos c142] at H
              have c142b0 := beq_iff_eq.mpr c142; have c142b1 := bne_eq_false_iff_eq.mpr c142; clear c142; have H' := Aside0.mk H; clear H
              as_aux_lemma =>
               go_wp2
               all_goals (go_meet; (case rel => exact ⟨_, (decide (x244_3 < t559)), zu, H', ⟨by have := HJ13.out; have := HJ117.out; have := HK3.out; first | omega | exact Nat.le_refl _⟩, ⟨by (with_reducible repeat (first | apply Kd.R_alloc | apply Kd.R_drewN | apply Kd.R_drew)); exact Kd.R_mono HO_6.out (fun _ hk => hk.2)⟩, zp HO_8, zp HO_12, ⟨by (with_reducible repeat (first | apply Kd.R_alloc | apply Kd.R_drewN | apply Kd.R_drew)); exact Kd.R_mono HO_242.out (fun _ hk => hk.2)⟩, zk BK581, ⟨zy HB⟩⟩))
             ·rw [if_neg c142] at H
              have c142b0 := beq_eq_false_iff_ne.mpr c142; have c142b1 := bne_iff_ne.mpr c142; have H' := Aside0.mk H; clear H
              as_aux_lemma =>
               go_wp2
               all_goals (go_meet; (case rel => exact ⟨_, (false), zu, H', ⟨by have := HJ13.out; have := HJ117.out; have := HK3.out; first | omega | exact Nat.le_refl _⟩, ⟨by (with_reducible repeat (first | apply Kd.R_alloc | apply Kd.R_drewN | apply Kd.R_drew)); exact Kd.R_mono HO_6.out (fun _ hk => hk.2)⟩, zp HO_8, zp HO_12, ⟨by (with_reducible repeat (first | apply Kd.R_alloc | apply Kd.R_drewN | apply Kd.R_drew)); exact Kd.R_mono HO_242.out (fun _ hk => hk.2)⟩, zk BK581, ⟨zy HB⟩⟩))
           ·replace c140 := Bool.eq_false_iff.mpr c140
            subst c140; rw [if_neg (show ¬ (false = true) by decide)] at H
            exact absurd (HR_.out.symm.trans (laws_FnShadowsDark.j3_true _ _ _ _ _ _ _ _ _ _ _ _ _ _ _ _ _ _ _ _ _ _ _ H)) (by decide)
         ·replace c138 := Bool.eq_false_iff.mpr c138
          subst c138; rw [if_neg (show ¬ (false = true) by decide)] at H
          exact absurd (HR_.out.symm.trans (laws_FnShadowsDark.j3_true _ _ _ _ _ _ _ _ _ _ _ _ _ _ _ _ _ _ _ _ _ _ _ H)) (by decide)
        case rest =>
         (try clear hz581)
         clear HC132
         obtain ⟨kq, x300_131, rfl, HA, HJ131, HO_6, HO_8, HO_12, HO_242, BK581, HB⟩ := hcut
         cases kq with
         | zero => exact absurd HA.out (by simp [laws_FnShadowsDark.j3])
         | succ kj131 =>
          have H := HA.out; clear HA; simp only [laws_FnShadowsDark.j3] at H
          by_cases c143 : x300_131 = true
          ·subst c143
           rw [if_pos rfl] at H
           obtain rfl := Option.some.inj H
           exact absurd HR_.out (by decide)
          ·replace c143 := Bool.eq_false_iff.mpr c143
           subst c143; rw [if_neg (show ¬ (false = true) by decide)] at H; have HC144 := Aside0.mk H; clear H
           as_aux_lemma =>
            go_upto_region 26 with (fail)
            go_cut [26] (fun v26 wc => ∃ (kq : Nat) (x26_143 : Bool), v26 = .bool x26_143 ∧ Aside0 (laws_FnShadowsDark.j4 kq l1 t538 t539 t540 t543 t544 t551 t559 t563 t564 x26_143 t575 t576 x244_3 t539 (t539.length : Int) x244_3 ((rd_T39 t539 x244_3).f0) ((rd_T39 t539 x244_3).f1) = some r) ∧ Aside0 (kq ≤ kj131) ∧ Aside0 (Kd.R k39 39 wc w.heap.size (fun k_ => k_ ≠ gb581) (.slice (some ad574) t539.length co16) t539) ∧ Aside0 (Kd.R (Kd.int .i64) 3 wc w.heap.size (fun k_ => some k_ ≠ (v553 : Value).ownBlock) v545 t543) ∧ Aside0 (Kd.R (Kd.int .i64) 3 wc w.heap.size (fun k_ => some k_ ≠ (v545 : Value).ownBlock) v553 t551) ∧ Aside0 (Kd.R k39 39 wc w.heap.size (fun k_ => k_ ≠ gb581) (.slice (some ad574) t539.length co16) t539) ∧ Aside0 (wc.heap[gb581]? = some (.cells #[.int .i64 ((rd_T39 t539 x244_3).f0), .int .i64 ((rd_T39 t539 x244_3).f1)] 39 (0, 0))) ∧ Aside0 (Below w.heap.size w wc))
            case first =>
             have H := HC144.out; clear HC144
             by_cases c145 : x26_3 = true
             ·subst c145
              rw [if_pos rfl] at H; have H' := Aside0.mk H; clear H
              as_aux_lemma =>
               go_wp2
               all_goals (go_meet; (case rel => exact ⟨_, (true), zu, H', ⟨by have := HJ13.out; have := HJ117.out; have := HK3.out; have := HJ131.out; first | omega | exact Nat.le_refl _⟩, zp HO_6, zp HO_8, zp HO_12, zp HO_242, zk BK581, ⟨zy HB⟩⟩))
             ·replace c145 := Bool.eq_false_iff.mpr c145
              subst c145; rw [if_neg (show ¬ (false = true) by decide)] at H
              by_cases c146 : t582 = t563
              ·rw [if_pos c146] at H
               have c146b0 := beq_iff_eq.mpr c146; have c146b1 := bne_eq_false_iff_eq.mpr c146; clear c146
               (first | rw [c146b0] | (simp only [i64_w, i32_w]; rw [c146b0]) | skip)
               have H' := Aside0.mk H; clear H
               as_aux_lemma =>
                go_wp2
                all_goals (go_meet; (case rel => exact ⟨_, ((t583 == t564)), zu, H', ⟨by have := HJ13.out; have := HJ117.out; have := HK3.out; have := HJ131.out; first | omega | exact Nat.le_refl _⟩, zp HO_6, zp HO_8, zp HO_12, zp HO_242, zk BK581, ⟨zy HB⟩⟩))
              ·rw [if_neg c146] at H
               have c146b0 := beq_eq_false_iff_ne.mpr c146; have c146b1 := bne_iff_ne.mpr c146
               (first | rw [c146b0] | (simp only [i64_w, i32_w]; rw [c146b0]) | skip)
               have H' := Aside0.mk H; clear H
               as_aux_lemma =>
                go_wp2
                all_goals (go_meet; (case rel => exact ⟨_, (false), zu, H', ⟨by have := HJ13.out; have := HJ117.out; have := HK3.out; have := HJ131.out; first | omega | exact Nat.le_refl _⟩, zp HO_6, zp HO_8, zp HO_12, zp HO_242, zk BK581, ⟨zy HB⟩⟩))
            case rest =>
             (try clear hz581)
             clear HC144
             obtain ⟨kq, x26_143, rfl, HA, HJ143, HO_6, HO_8, HO_12, HO_242, BK581, HB⟩ := hcut
             cases kq with
             | zero => exact absurd HA.out (by simp [laws_FnShadowsDark.j4])
             | succ kj143 =>
              have H := HA.out; clear HA; simp only [laws_FnShadowsDark.j4] at H
              by_cases c147 : 0 ≤ x244_3
              ·rw [if_pos c147] at H
               have c147b0 := eq_true c147; have c147b1 := decide_eq_true c147; clear c147
               by_cases c148 : x244_3 ≤ (t539.length : Int)
               ·rw [if_pos c148] at H
                have c148b0 := eq_true c148; have c148b1 := decide_eq_true c148; clear c148
                obtain ⟨y588, hy588⟩ : ∃ y_ : List (S39), y_ = (t539.take (x244_3 : Int).toNat) := ⟨_, rfl⟩
                replace H : (laws_FnShadowsDark.l1 kj143 l1 t538 t539 t540 t543 t544 t551 t559 t563 t564 x26_143 t575 t576 x244_3 false t539 (t539.length : Int) x244_3 y588 (y588.length : Int) 0 ((rd_T39 t539 x244_3).f0) ((rd_T39 t539 x244_3).f1)) = some r := by first | (rw [hy588]; with_reducible exact H) | (have H2_ := (Option.bind_some _ _).symm.trans H; rw [hy588]; with_reducible exact H2_) | (have H2_ := (Option.bind_some _ _).symm.trans H; with_reducible exact H2_) | with_reducible exact H | (rw [hy588]; exact H) | exact H
                have Ny588 := Aside0.mk hy588; clear hy588; have H' := Aside0.mk H; clear H
                have q149 : (x244_3 : Int) ≤ ((t539.length : Int) : Int) := of_decide_eq_true zU3_5
                obtain ⟨i0149, hi0149, _, hsz149, _⟩ := info_parts info39
                have hroom149 : t539.length ≤ co16 := (Kd.R_reads' HO_6.out).2.1
                have hC149 : Kd.C k39 _ (some ad574) t539.length t539 := (Kd.R_reads' HO_6.out).2.2
                have hcut149 := cut_to (P := Tryz.prog) 24 39 .i64 Tryz.underlying24 hi0149 (some ad574) t539.length co16 x244_3 (of_decide_eq_true zU3_5) q149 hroom149
                have hr149 := Kd.C_take (m := (x244_3 : Int).toNat) hC149 zU3_6
                have hy149 : y588.length = (x244_3 : Int).toNat := (by rw [Ny588.out, List.length_take]; omega)
                rw [← Ny588.out] at hr149
                rw [← hy149] at hcut149
                have HR591 := Aside0.mk hr149
                have HC591 := Aside0.mk (show y588.length ≤ co16 from by omega)
                clear hr149 hC149 hroom149 hi0149 hsz149; have KY149 := Aside0.mk hy149; clear hy149
                have KL149 := Aside0.mk (show (x244_3 : Int).toNat ≤ t539.length from by omega)
                replace q149 := eq_true q149
                as_aux_lemma =>
                 go_wp2
                 go_loopg [38, 316] kj143 (fun kq v38 v316 w' => ∃ (x38_6 : Bool) (x316_6 : Int), v38 = .bool x38_6 ∧ v316 = .int .i64 x316_6 ∧ Aside0 (laws_FnShadowsDark.l1 kq l1 t538 t539 t540 t543 t544 t551 t559 t563 t564 x26_143 t575 t576 x244_3 x38_6 t539 (t539.length : Int) x244_3 y588 (y588.length : Int) x316_6 ((rd_T39 t539 x244_3).f0) ((rd_T39 t539 x244_3).f1) = some r) ∧ Aside0 (kq ≤ kj143) ∧ Aside0 (Kd.R k39 39 w' w.heap.size (fun k_ => k_ ≠ gb581) (.slice (some ad574) t539.length co16) t539) ∧ Aside0 (Kd.R (Kd.int .i64) 3 w' w.heap.size (fun k_ => some k_ ≠ (v553 : Value).ownBlock) v545 t543) ∧ Aside0 (Kd.R (Kd.int .i64) 3 w' w.heap.size (fun k_ => some k_ ≠ (v545 : Value).ownBlock) v553 t551) ∧ Aside0 (Kd.R k39 39 w' w.heap.size (fun k_ => k_ ≠ gb581) (.slice (some ad574) t539.length co16) t539) ∧ Aside0 (w'.heap[gb581]? = some (.cells #[.int .i64 ((rd_T39 t539 x244_3).f0), .int .i64 ((rd_T39 t539 x244_3).f1)] 39 (0, 0))) ∧ Aside0 (Kd.C k39 w' (some ad574) y588.length y588) ∧ Aside0 (Below w.heap.size w w'))
                 case atStart => exact ⟨(false), (0), zu, zu, H', ⟨Nat.le_refl _⟩, zp HO_6, zp HO_8, zp HO_12, zp HO_242, zk BK581, ⟨by repeat (first | (with_reducible exact HR591.out) | (with_reducible refine Kd.C_alloc ?_ _) | (with_reducible refine Kd.C_drewN ?_ _) | (with_reducible refine Kd.C_drew ?_) | exact HR591.out)⟩, ⟨zy HB⟩⟩
                 case round =>
                  clear H'
                  obtain ⟨x38_6, x316_6, rfl, rfl, HA, HK6, HO_6, HO_8, HO_12, HO_242, BK581, HR591, HB⟩ := hrel
                  cases gk with
                  | zero => exact absurd HA.out (by simp [laws_FnShadowsDark.l1])
                  | succ k6 =>
                   have H := HA.out; clear HA; simp only [laws_FnShadowsDark.l1] at H
                   by_cases c150 : x316_6 < (y588.length : Int)
                   ·rw [if_pos c150] at H
                    have c150b0 := decide_eq_true c150; clear c150
                    by_cases c151 : 0 ≤ x316_6
                    ·rw [if_pos c151] at H
                     have c151b0 := decide_eq_true c151; clear c151
                     by_cases c152 : x316_6 < (y588.length : Int)
                     ·rw [if_pos c152] at H
                      have c152b0 := decide_eq_true c152; clear c152; obtain ⟨⟨t594, t595⟩, A153, H⟩ := zB H; (try dsimp only at H)
                      by_cases c154 : t595 = true
                      ·subst c154
                       rw [if_pos rfl] at H
                       by_cases c155 : x38_6 = true
                       ·subst c155
                        rw [if_pos rfl] at H; have H' := Aside0.mk H; clear H
                        have p592 : 0 ≤ (x316_6 : Int) := of_decide_eq_true zU3_5
                        have q592 : x316_6 < (y588.length : Int) := of_decide_eq_true zU3_5
                        obtain ⟨ad592, e592, hx592_0, hx592_1⟩ := at_T39 zU3_2 x316_6 p592 q592
                        obtain rfl : ad574 = ad592 := (by injection e592)
                        replace p592 := eq_true p592; replace q592 := eq_true q592
                        as_aux_lemma =>
                         go_wp2_with (first | ((with_reducible refine gate_dst (N := 40) rfl ?_); (try (refine gate_guard (by rfl) ?_; dsimp only)); refine zE 40 #[.int .i64 0, .int .i64 0] 39 ?_; intro gb593 hg w156 hbox hb; have n0_ := Aside0.mk (Kd.R_below (Kd.R_elderB (zs HO_6) gb593 (Nat.le_of_eq hg.symm)) hb); have n3_ := Aside0.mk (Kd.R_below (Kd.R_elderB (zs HO_242) gb593 (Nat.le_of_eq hg.symm)) hb); have NS591_593 := Aside0.mk (zcne zU3_2 (by decide) hg); have n6_ := Aside0.mk (Kd.C_below zU3_2 hb); have BK593 := Aside0.mk (hbox); have GW593 := zg HB hg; have NB581_593 := zl BK581 hg; have NB593_581 := zr BK581 hg; replace HO_8 := zo HO_8 hb; replace HO_12 := zo HO_12 hb; replace BK581 := zb BK581 hb; replace HB := zh HB hb; clear HO_6; have HO_6 := n0_; clear n0_; clear HO_242; have HO_242 := n3_; clear n3_; clear HR591; have HR591 := n6_; clear n6_; clear hb hbox hg; replace hNB593_581 := NB593_581.out; replace hNB581_593 := NB581_593.out; replace hz593 := zc2 BK593; replace hz581 := zc2 BK581) | ((with_reducible refine gate_callee (f := 21) rfl ?_); refine zG (some 324) Tryz.func21 #[.int .i64 t538, .agg #[.int .i64 ((rd_T39 y588 x316_6).f0), .int .i64 ((rd_T39 y588 x316_6).f1)], .agg #[.int .i64 ((rd_T39 t539 x244_3).f0), .int .i64 ((rd_T39 t539 x244_3).f1)]] ?_; (with_reducible refine (impl_IsHidden.calls t538 ((rd_T39 y588 x316_6).f0) ((rd_T39 y588 x316_6).f1) ((rd_T39 t539 x244_3).f0) ((rd_T39 t539 x244_3).f1) t594 true _ A153.out).mono ?_); rintro e w160 ⟨rfl, hb⟩; refine ⟨_, rfl, ?_⟩; have n0_ := Aside0.mk (Kd.R_below (zrp (Kd.R_mono (Kd.R_far (p := ⟨gb593, 1, none⟩) (Kd.R_far (p := ⟨gb593, 0, none⟩) (Kd.R_mono HO_6.out (fun k_ hk => (⟨hk, hk.2⟩ : _ ∧ k_ ≠ gb593))) (fun _ hk => hk.2) (.int .i64 ((rd_T39 y588 x316_6).f0))) (fun _ hk => hk.2) (.int .i64 ((rd_T39 y588 x316_6).f1))) (fun _ h_ => h_.1))) hb); have n1_ := Aside0.mk (Kd.R_below (zrp (Kd.R_mono (Kd.R_far (p := ⟨gb593, 1, none⟩) (Kd.R_far (p := ⟨gb593, 0, none⟩) (Kd.R_types HO_8.out BK593.out (by decide)) (fun _ hk => hk.2) (.int .i64 ((rd_T39 y588 x316_6).f0))) (fun _ hk => hk.2) (.int .i64 ((rd_T39 y588 x316_6).f1))) (fun _ h_ => h_.1))) hb); have n2_ := Aside0.mk (Kd.R_below (zrp (Kd.R_mono (Kd.R_far (p := ⟨gb593, 1, none⟩) (Kd.R_far (p := ⟨gb593, 0, none⟩) (Kd.R_types HO_12.out BK593.out (by decide)) (fun _ hk => hk.2) (.int .i64 ((rd_T39 y588 x316_6).f0))) (fun _ hk => hk.2) (.int .i64 ((rd_T39 y588 x316_6).f1))) (fun _ h_ => h_.1))) hb); have n3_ := Aside0.mk (Kd.R_below (zrp (Kd.R_mono (Kd.R_far (p := ⟨gb593, 1, none⟩) (Kd.R_far (p := ⟨gb593, 0, none⟩) (Kd.R_mono HO_242.out (fun k_ hk => (⟨hk, hk.2⟩ : _ ∧ k_ ≠ gb593))) (fun _ hk => hk.2) (.int .i64 ((rd_T39 y588 x316_6).f0))) (fun _ hk => hk.2) (.int .i64 ((rd_T39 y588 x316_6).f1))) (fun _ h_ => h_.1))) hb); have n5_ := Aside0.mk (Kd.C_below zU3_0 hb); have n6_ := Aside0.mk (blk_below (g := gb593) (o := .cells #[.int .i64 ((rd_T39 y588 x316_6).f0), .int .i64 ((rd_T39 y588 x316_6).f1)] 39 (0, 0)) (zw BK593) hb); replace BK581 := zb BK581 hb; replace HB := zh HB hb; clear HO_6; have HO_6 := n0_; clear n0_; clear HO_8; have HO_8 := n1_; clear n1_; clear HO_12; have HO_12 := n2_; clear n2_; clear HO_242; have HO_242 := n3_; clear n3_; clear HR591; have HR591 := n5_; clear n5_; clear BK593; have BK593 := n6_; clear n6_; clear hb))
                         go_roundg k6
                         case measure => have := HJ13.out; have := HJ117.out; have := HK3.out; have := HJ131.out; have := HJ143.out; have := HK6.out; omega
                         case rel => exact ⟨(true), (wrap64 (x316_6 + 1)), zu, zu, H', ⟨by have := HJ13.out; have := HJ117.out; have := HK3.out; have := HJ131.out; have := HJ143.out; have := HK6.out; omega⟩, ⟨by (with_reducible repeat (first | apply Kd.R_alloc | apply Kd.R_drewN | apply Kd.R_drew)); exact Kd.R_mono HO_6.out (fun _ hk => hk.1)⟩, zp HO_8, zp HO_12, ⟨by (with_reducible repeat (first | apply Kd.R_alloc | apply Kd.R_drewN | apply Kd.R_drew)); exact Kd.R_mono HO_242.out (fun _ hk => hk.1)⟩, zk BK581, ⟨by repeat (first | (with_reducible exact HR591.out) | (with_reducible refine Kd.C_alloc ?_ _) | (with_reducible refine Kd.C_drewN ?_ _) | (with_reducible refine Kd.C_drew ?_) | exact HR591.out)⟩, ⟨zy HB⟩⟩
                       ·replace c155 := Bool.eq_false_iff.mpr c155
                        subst c155; rw [if_neg (show ¬ (false = true) by decide)] at H; have H' := Aside0.mk H; clear H
                        have p592 : 0 ≤ (x316_6 : Int) := of_decide_eq_true zU3_5
                        have q592 : x316_6 < (y588.length : Int) := of_decide_eq_true zU3_5
                        obtain ⟨ad592, e592, hx592_0, hx592_1⟩ := at_T39 zU3_2 x316_6 p592 q592
                        obtain rfl : ad574 = ad592 := (by injection e592)
                        replace p592 := eq_true p592; replace q592 := eq_true q592
                        as_aux_lemma =>
                         go_wp2_with (first | ((with_reducible refine gate_dst (N := 40) rfl ?_); (try (refine gate_guard (by rfl) ?_; dsimp only)); refine zE 40 #[.int .i64 0, .int .i64 0] 39 ?_; intro gb593 hg w161 hbox hb; have n0_ := Aside0.mk (Kd.R_below (Kd.R_elderB (zs HO_6) gb593 (Nat.le_of_eq hg.symm)) hb); have n3_ := Aside0.mk (Kd.R_below (Kd.R_elderB (zs HO_242) gb593 (Nat.le_of_eq hg.symm)) hb); have NS591_593 := Aside0.mk (zcne zU3_2 (by decide) hg); have n6_ := Aside0.mk (Kd.C_below zU3_2 hb); have BK593 := Aside0.mk (hbox); have GW593 := zg HB hg; have NB581_593 := zl BK581 hg; have NB593_581 := zr BK581 hg; replace HO_8 := zo HO_8 hb; replace HO_12 := zo HO_12 hb; replace BK581 := zb BK581 hb; replace HB := zh HB hb; clear HO_6; have HO_6 := n0_; clear n0_; clear HO_242; have HO_242 := n3_; clear n3_; clear HR591; have HR591 := n6_; clear n6_; clear hb hbox hg; replace hNB593_581 := NB593_581.out; replace hNB581_593 := NB581_593.out; replace hz593 := zc2 BK593; replace hz581 := zc2 BK581) | ((with_reducible refine gate_callee (f := 21) rfl ?_); refine zG (some 324) Tryz.func21 #[.int .i64 t538, .agg #[.int .i64 ((rd_T39 y588 x316_6).f0), .int .i64 ((rd_T39 y588 x316_6).f1)], .agg #[.int .i64 ((rd_T39 t539 x244_3).f0), .int .i64 ((rd_T39 t539 x244_3).f1)]] ?_; (with_reducible refine (impl_IsHidden.calls t538 ((rd_T39 y588 x316_6).f0) ((rd_T39 y588 x316_6).f1) ((rd_T39 t539 x244_3).f0) ((rd_T39 t539 x244_3).f1) t594 true _ A153.out).mono ?_); rintro e w165 ⟨rfl, hb⟩; refine ⟨_, rfl, ?_⟩; have n0_ := Aside0.mk (Kd.R_below (zrp (Kd.R_mono (Kd.R_far (p := ⟨gb593, 1, none⟩) (Kd.R_far (p := ⟨gb593, 0, none⟩) (Kd.R_mono HO_6.out (fun k_ hk => (⟨hk, hk.2⟩ : _ ∧ k_ ≠ gb593))) (fun _ hk => hk.2) (.int .i64 ((rd_T39 y588 x316_6).f0))) (fun _ hk => hk.2) (.int .i64 ((rd_T39 y588 x316_6).f1))) (fun _ h_ => h_.1))) hb); have n1_ := Aside0.mk (Kd.R_below (zrp (Kd.R_mono (Kd.R_far (p := ⟨gb593, 1, none⟩) (Kd.R_far (p := ⟨gb593, 0, none⟩) (Kd.R_types HO_8.out BK593.out (by decide)) (fun _ hk => hk.2) (.int .i64 ((rd_T39 y588 x316_6).f0))) (fun _ hk => hk.2) (.int .i64 ((rd_T39 y588 x316_6).f1))) (fun _ h_ => h_.1))) hb); have n2_ := Aside0.mk (Kd.R_below (zrp (Kd.R_mono (Kd.R_far (p := ⟨gb593, 1, none⟩) (Kd.R_far (p := ⟨gb593, 0, none⟩) (Kd.R_types HO_12.out BK593.out (by decide)) (fun _ hk => hk.2) (.int .i64 ((rd_T39 y588 x316_6).f0))) (fun _ hk => hk.2) (.int .i64 ((rd_T39 y588 x316_6).f1))) (fun _ h_ => h_.1))) hb); have n3_ := Aside0.mk (Kd.R_below (zrp (Kd.R_mono (Kd.R_far (p := ⟨gb593, 1, none⟩) (Kd.R_far (p := ⟨gb593, 0, none⟩) (Kd.R_mono HO_242.out (fun k_ hk => (⟨hk, hk.2⟩ : _ ∧ k_ ≠ gb593))) (fun _ hk => hk.2) (.int .i64 ((rd_T39 y588 x316_6).f0))) (fun _ hk => hk.2) (.int .i64 ((rd_T39 y588 x316_6).f1))) (fun _ h_ => h_.1))) hb); have n5_ := Aside0.mk (Kd.C_below zU3_0 hb); have n6_ := Aside0.mk (blk_below (g := gb593) (o := .cells #[.int .i64 ((rd_T39 y588 x316_6).f0), .int .i64 ((rd_T39 y588 x316_6).f1)] 39 (0, 0)) (zw BK593) hb); replace BK581 := zb BK581 hb; replace HB := zh HB hb; clear HO_6; have HO_6 := n0_; clear n0_; clear HO_8; have HO_8 := n1_; clear n1_; clear HO_12; have HO_12 := n2_; clear n2_; clear HO_242; have HO_242 := n3_; clear n3_; clear HR591; have HR591 := n5_; clear n5_; clear BK593; have BK593 := n6_; clear n6_; clear hb))
                         go_roundg k6
                         case measure => have := HJ13.out; have := HJ117.out; have := HK3.out; have := HJ131.out; have := HJ143.out; have := HK6.out; omega
                         case rel => exact ⟨(t594), (wrap64 (x316_6 + 1)), zu, zu, H', ⟨by have := HJ13.out; have := HJ117.out; have := HK3.out; have := HJ131.out; have := HJ143.out; have := HK6.out; omega⟩, ⟨by (with_reducible repeat (first | apply Kd.R_alloc | apply Kd.R_drewN | apply Kd.R_drew)); exact Kd.R_mono HO_6.out (fun _ hk => hk.1)⟩, zp HO_8, zp HO_12, ⟨by (with_reducible repeat (first | apply Kd.R_alloc | apply Kd.R_drewN | apply Kd.R_drew)); exact Kd.R_mono HO_242.out (fun _ hk => hk.1)⟩, zk BK581, ⟨by repeat (first | (with_reducible exact HR591.out) | (with_reducible refine Kd.C_alloc ?_ _) | (with_reducible refine Kd.C_drewN ?_ _) | (with_reducible refine Kd.C_drew ?_) | exact HR591.out)⟩, ⟨zy HB⟩⟩
                      ·replace c154 := Bool.eq_false_iff.mpr c154
                       subst c154; rw [if_neg (show ¬ (false = true) by decide)] at H
                       obtain rfl := Option.some.inj H
                       exact absurd HR_.out (by decide)
                     ·rw [if_neg c152] at H
                      exact absurd H (by simp)
                    ·rw [if_neg c151] at H
                     exact absurd H (by simp)
                   ·rw [if_neg c150] at H
                    have c150b0 := decide_eq_false c150; clear c150; obtain ⟨t596, A166, H⟩ := zB H; (try dsimp only at H)
                    by_cases c167 : (x38_6 != t596) = true
                    ·rw [if_pos c167] at H
                     have c167b0 : (x38_6 != t596) = true := c167
                     (try (have c167b1 : decide (x38_6 = t596) = false := by simpa using c167))
                     (try (have c167b2 : (x38_6 == t596) = false := by simpa using c167))
                     (try (have c167b3 : ¬ (x38_6 = t596) := by simpa using c167))
                     clear c167
                     obtain rfl := Option.some.inj H
                     exact absurd HR_.out (by decide)
                    ·rw [if_neg c167] at H
                     have c167b0 : (x38_6 != t596) = false := by simpa using c167
                     (try (have c167b1 : decide (x38_6 = t596) = true := by simpa using c167))
                     (try (have c167b2 : (x38_6 == t596) = true := by simpa using c167))
                     clear c167; have H' := Aside0.mk H; clear H
                     obtain ⟨Ao168, co168, eo168⟩ := Kd.R_slice HO_12.out
                     subst eo168
                     as_aux_lemma =>
                      go_wp2_with (first | ((with_reducible refine gate_callee (f := 19) rfl ?_); refine zG (some 337) Tryz.func19 #[.slice Ao168 t551.length co168, .int .i64 x244_3] ?_; (with_reducible refine (laws_yHas.calls k6 _ _ t551 x244_3 t596 _ ?side1 ?side2 A166.out).mono ?_); (case side1 => repeat (first | exact (Kd.R_reads' HO_12.out).2.2 | (with_reducible refine Kd.C_alloc ?_ _) | (with_reducible refine Kd.C_drewN ?_ _) | (with_reducible refine Kd.C_drew ?_))); (case side2 => exact (Kd.R_reads' HO_12.out).2.1); rintro e w' ⟨rfl, ⟨nd, rfl⟩⟩; refine ⟨_, rfl, ?_⟩))
                      go_roundg k6
                      case measure => have := HJ13.out; have := HJ117.out; have := HK3.out; have := HJ131.out; have := HJ143.out; have := HK6.out; omega
                      case rel => exact ⟨(x26_143), (wrap64 (x244_3 + 1)), zu, zu, H', ⟨by have := HJ13.out; have := HJ117.out; have := HK3.out; have := HJ131.out; have := HJ143.out; have := HK6.out; omega⟩, ⟨by (with_reducible repeat (first | apply Kd.R_alloc | apply Kd.R_drewN | apply Kd.R_drew)); exact Kd.R_mono HO_6.out (fun _ hk => trivial)⟩, zp HO_8, zp HO_12, ⟨by (with_reducible repeat (first | apply Kd.R_alloc | apply Kd.R_drewN | apply Kd.R_drew)); exact Kd.R_mono HO_242.out (fun _ hk => trivial)⟩, ⟨zy HB⟩⟩
               ·rw [if_neg c148] at H
                exact absurd H (by simp)
              ·rw [if_neg c147] at H
               exact absurd H (by simp)
      ·rw [if_neg c129] at H
       exact absurd H (by simp)
     ·rw [if_neg c128] at H
      exact absurd H (by simp)
    ·rw [if_neg c127] at H
     have c127b0 := decide_eq_false c127; clear c127
     by_cases c169 : x26_3 = true
     ·subst c169
      rw [if_pos rfl] at H
      by_cases c170 : t544 = true
      ·subst c170
       rw [if_pos rfl] at H; have H' := Aside0.mk H; clear H
       as_aux_lemma =>
        go_wp2
        go_loopg [43] k3 (fun kq v43 w' => ∃ (x43_4 : Int), v43 = .int .i64 x43_4 ∧ Aside0 (laws_FnShadowsDark.l2 kq l1 t538 t539 t540 t543 x43_4 = some r) ∧ Aside0 (kq ≤ k3) ∧ Aside0 (Kd.R k39 39 w' w.heap.size (fun _ => True) (.slice (some ad574) t539.length co16) t539) ∧ Aside0 (Kd.R (Kd.int .i64) 3 w' w.heap.size (fun _ => True) v545 t543) ∧ Aside0 (Below w.heap.size w w'))
        case atStart => exact ⟨(0), zu, H', ⟨Nat.le_refl _⟩, zp HO_6, ⟨by (with_reducible repeat (first | apply Kd.R_alloc | apply Kd.R_drewN | apply Kd.R_drew)); exact Kd.R_mono HO_8.out (fun _ hk => trivial)⟩, ⟨zy HB⟩⟩
        case round =>
         clear H'
         obtain ⟨x43_4, rfl, HA, HK4, HO_6, HO_8, HB⟩ := hrel
         cases gk with
         | zero => exact absurd HA.out (by simp [laws_FnShadowsDark.l2])
         | succ k4 =>
          have H := HA.out; clear HA; simp only [laws_FnShadowsDark.l2] at H; have HC171 := Aside0.mk H; clear H
          as_aux_lemma =>
           go_upto_region 43 with (fail)
           go_cut [349] (fun v349 wc => ∃ (kq : Nat) (x349_170 : Bool), v349 = .bool x349_170 ∧ Aside0 (laws_FnShadowsDark.j7 kq l1 t538 t539 t540 t543 x43_4 x349_170 = some r) ∧ Aside0 (kq ≤ k4) ∧ Aside0 (Kd.R k39 39 wc w.heap.size (fun _ => True) (.slice (some ad574) t539.length co16) t539) ∧ Aside0 (Kd.R (Kd.int .i64) 3 wc w.heap.size (fun _ => True) v545 t543) ∧ Aside0 (Below w.heap.size w wc))
           case first =>
            have H := HC171.out; clear HC171
            by_cases c172 : x43_4 ≤ t540
            ·rw [if_pos c172] at H
             have c172b0 := decide_eq_true c172; clear c172
             (first | rw [c172b0] | (simp only [i64_w, i32_w]; rw [c172b0]) | skip)
             have H' := Aside0.mk H; clear H
             as_aux_lemma =>
              go_wp2
              all_goals (go_meet; (case rel => exact ⟨_, (decide (x43_4 ≤ 40)), zu, H', ⟨by have := HJ13.out; have := HJ117.out; have := HK3.out; have := HK4.out; first | omega | exact Nat.le_refl _⟩, zp HO_6, zp HO_8, ⟨zy HB⟩⟩))
            ·rw [if_neg c172] at H
             have c172b0 := decide_eq_false c172; clear c172
             (first | rw [c172b0] | (simp only [i64_w, i32_w]; rw [c172b0]) | skip)
             have H' := Aside0.mk H; clear H
             as_aux_lemma =>
              go_wp2
              all_goals (go_meet; (case rel => exact ⟨_, (false), zu, H', ⟨by have := HJ13.out; have := HJ117.out; have := HK3.out; have := HK4.out; first | omega | exact Nat.le_refl _⟩, zp HO_6, zp HO_8, ⟨zy HB⟩⟩))
           case rest =>
            (try clear hz581); (try clear hz593)
            clear HC171
            obtain ⟨kq, x349_170, rfl, HA, HJ170, HO_6, HO_8, HB⟩ := hcut
            cases kq with
            | zero => exact absurd HA.out (by simp [laws_FnShadowsDark.j7])
            | succ kj170 =>
             have H := HA.out; clear HA; simp only [laws_FnShadowsDark.j7] at H
             by_cases c173 : x349_170 = true
             ·subst c173
              rw [if_pos rfl] at H; have H' := Aside0.mk H; clear H
              as_aux_lemma =>
               go_wp2
               go_loopg [44, 354] kj170 (fun kq v44 v354 w' => ∃ (x44_6 : Bool) (x354_6 : Int), v44 = .bool x44_6 ∧ v354 = .int .i64 x354_6 ∧ Aside0 (laws_FnShadowsDark.l3 kq l1 t538 t539 t540 t543 x43_4 x44_6 t539 (t539.length : Int) x354_6 = some r) ∧ Aside0 (kq ≤ kj170) ∧ Aside0 (Kd.R k39 39 w' w.heap.size (fun _ => True) (.slice (some ad574) t539.length co16) t539) ∧ Aside0 (Kd.R (Kd.int .i64) 3 w' w.heap.size (fun _ => True) v545 t543) ∧ Aside0 (Kd.R k39 39 w' w.heap.size (fun _ => True) (.slice (some ad574) t539.length co16) t539) ∧ Aside0 (Below w.heap.size w w'))
               case atStart => exact ⟨(false), (0), zu, zu, H', ⟨Nat.le_refl _⟩, zp HO_6, zp HO_8, zp HO_6, ⟨zy HB⟩⟩
               case round =>
                clear H'
                obtain ⟨x44_6, x354_6, rfl, rfl, HA, HK6, HO_6, HO_8, HO_352, HB⟩ := hrel
                cases gk with
                | zero => exact absurd HA.out (by simp [laws_FnShadowsDark.l3])
                | succ k6 =>
                 have H := HA.out; clear HA; simp only [laws_FnShadowsDark.l3] at H
                 by_cases c174 : x354_6 < (t539.length : Int)
                 ·rw [if_pos c174] at H
                  have c174b0 := decide_eq_true c174; clear c174
                  by_cases c175 : 0 ≤ x354_6
                  ·rw [if_pos c175] at H
                   have c175b0 := decide_eq_true c175; clear c175
                   by_cases c176 : x354_6 < (t539.length : Int)
                   ·rw [if_pos c176] at H
                    have c176b0 := decide_eq_true c176; clear c176; obtain ⟨⟨t600, t601, t602⟩, A177, H⟩ := zB H; (try dsimp only at H)
                    by_cases c178 : t602 = true
                    ·subst c178
                     rw [if_pos rfl] at H
                     by_cases c179 : x44_6 = true
                     ·subst c179
                      rw [if_pos rfl] at H; have H' := Aside0.mk H; clear H
                      have p598 : 0 ≤ (x354_6 : Int) := of_decide_eq_true zU3_5
                      have q598 : x354_6 < (t539.length : Int) := of_decide_eq_true zU3_5
                      obtain ⟨ad598, e598, hx598_0, hx598_1⟩ := at_T39 (Kd.R_reads' HO_352.out).2.2 x354_6 p598 q598
                      obtain rfl : ad574 = ad598 := (by injection e598)
                      replace p598 := eq_true p598; replace q598 := eq_true q598
                      as_aux_lemma =>
                       go_wp2_with (first | ((with_reducible refine gate_dst (N := 46) rfl ?_); (try (refine gate_guard (by rfl) ?_; dsimp only)); refine zE 46 #[.int .i64 0, .int .i64 0] 39 ?_; intro gb599 hg w180 hbox hb; have n0_ := Aside0.mk (Kd.R_below (Kd.R_elderB (zs HO_6) gb599 (Nat.le_of_eq hg.symm)) hb); have n2_ := Aside0.mk (Kd.R_below (Kd.R_elderB (zs HO_352) gb599 (Nat.le_of_eq hg.symm)) hb); have BK599 := Aside0.mk (hbox); have GW599 := zg HB hg; replace HO_8 := zo HO_8 hb; replace HB := zh HB hb; clear HO_6; have HO_6 := n0_; clear n0_; clear HO_352; have HO_352 := n2_; clear n2_; clear hb hbox hg; replace hz599 := zc2 BK599) | ((with_reducible refine gate_callee (f := 20) rfl ?_); refine zG (some 361) Tryz.func20 #[.int .i64 t538, .agg #[.int .i64 ((rd_T39 t539 x354_6).f0), .int .i64 ((rd_T39 t539 x354_6).f1)]] ?_; (with_reducible refine (impl_ShadowEnd.calls k6 t538 ((rd_T39 t539 x354_6).f0) ((rd_T39 t539 x354_6).f1) t600 t601 true _ A177.out).mono ?_); rintro e w182 ⟨rfl, hb⟩; refine ⟨_, rfl, ?_⟩; have n0_ := Aside0.mk (Kd.R_below (zrp (Kd.R_mono (Kd.R_far (p := ⟨gb599, 1, none⟩) (Kd.R_far (p := ⟨gb599, 0, none⟩) (Kd.R_mono HO_6.out (fun k_ hk => (⟨hk, hk.2⟩ : _ ∧ k_ ≠ gb599))) (fun _ hk => hk.2) (.int .i64 ((rd_T39 t539 x354_6).f0))) (fun _ hk => hk.2) (.int .i64 ((rd_T39 t539 x354_6).f1))) (fun _ h_ => h_.1))) hb); have n1_ := Aside0.mk (Kd.R_below (zrp (Kd.R_mono (Kd.R_far (p := ⟨gb599, 1, none⟩) (Kd.R_far (p := ⟨gb599, 0, none⟩) (Kd.R_types HO_8.out BK599.out (by decide)) (fun _ hk => hk.2) (.int .i64 ((rd_T39 t539 x354_6).f0))) (fun _ hk => hk.2) (.int .i64 ((rd_T39 t539 x354_6).f1))) (fun _ h_ => h_.1))) hb); have n2_ := Aside0.mk (Kd.R_below (zrp (Kd.R_mono (Kd.R_far (p := ⟨gb599, 1, none⟩) (Kd.R_far (p := ⟨gb599, 0, none⟩) (Kd.R_mono HO_352.out (fun k_ hk => (⟨hk, hk.2⟩ : _ ∧ k_ ≠ gb599))) (fun _ hk => hk.2) (.int .i64 ((rd_T39 t539 x354_6).f0))) (fun _ hk => hk.2) (.int .i64 ((rd_T39 t539 x354_6).f1))) (fun _ h_ => h_.1))) hb); have n3_ := Aside0.mk (blk_below (g := gb599) (o := .cells #[.int .i64 ((rd_T39 t539 x354_6).f0), .int .i64 ((rd_T39 t539 x354_6).f1)] 39 (0, 0)) (zw BK599) hb); replace HB := zh HB hb; clear HO_6; have HO_6 := n0_; clear n0_; clear HO_8; have HO_8 := n1_; clear n1_; clear HO_352; have HO_352 := n2_; clear n2_; clear BK599; have BK599 := n3_; clear n3_; clear hb))
                       go_roundg k6
                       case measure => have := HJ13.out; have := HJ117.out; have := HK3.out; have := HK4.out; have := HJ170.out; have := HK6.out; omega
                       case rel => exact ⟨(true), (wrap64 (x354_6 + 1)), zu, zu, H', ⟨by have := HJ13.out; have := HJ117.out; have := HK3.out; have := HK4.out; have := HJ170.out; have := HK6.out; omega⟩, ⟨by (with_reducible repeat (first | apply Kd.R_alloc | apply Kd.R_drewN | apply Kd.R_drew)); exact Kd.R_mono HO_6.out (fun _ hk => trivial)⟩, zp HO_8, ⟨by (with_reducible repeat (first | apply Kd.R_alloc | apply Kd.R_drewN | apply Kd.R_drew)); exact Kd.R_mono HO_352.out (fun _ hk => trivial)⟩, ⟨zy HB⟩⟩
                     ·replace c179 := Bool.eq_false_iff.mpr c179
                      subst c179; rw [if_neg (show ¬ (false = true) by decide)] at H
                      by_cases c183 : x43_4 > ((rd_T39 t539 x354_6).f0)
                      ·rw [if_pos c183] at H
                       have c183b0 := decide_eq_true c183; clear c183; have H' := Aside0.mk H; clear H
                       have p598 : 0 ≤ (x354_6 : Int) := of_decide_eq_true zU3_5
                       have q598 : x354_6 < (t539.length : Int) := of_decide_eq_true zU3_5
                       obtain ⟨ad598, e598, hx598_0, hx598_1⟩ := at_T39 (Kd.R_reads' HO_352.out).2.2 x354_6 p598 q598
                       obtain rfl : ad574 = ad598 := (by injection e598)
                       replace p598 := eq_true p598; replace q598 := eq_true q598
                       as_aux_lemma =>
                        go_wp2_with (first | ((with_reducible refine gate_dst (N := 46) rfl ?_); (try (refine gate_guard (by rfl) ?_; dsimp only)); refine zE 46 #[.int .i64 0, .int .i64 0] 39 ?_; intro gb599 hg w184 hbox hb; have n0_ := Aside0.mk (Kd.R_below (Kd.R_elderB (zs HO_6) gb599 (Nat.le_of_eq hg.symm)) hb); have n2_ := Aside0.mk (Kd.R_below (Kd.R_elderB (zs HO_352) gb599 (Nat.le_of_eq hg.symm)) hb); have BK599 := Aside0.mk (hbox); have GW599 := zg HB hg; replace HO_8 := zo HO_8 hb; replace HB := zh HB hb; clear HO_6; have HO_6 := n0_; clear n0_; clear HO_352; have HO_352 := n2_; clear n2_; clear hb hbox hg; replace hz599 := zc2 BK599) | ((with_reducible refine gate_callee (f := 20) rfl ?_); refine zG (some 361) Tryz.func20 #[.int .i64 t538, .agg #[.int .i64 ((rd_T39 t539 x354_6).f0), .int .i64 ((rd_T39 t539 x354_6).f1)]] ?_; (with_reducible refine (impl_ShadowEnd.calls k6 t538 ((rd_T39 t539 x354_6).f0) ((rd_T39 t539 x354_6).f1) t600 t601 true _ A177.out).mono ?_); rintro e w186 ⟨rfl, hb⟩; refine ⟨_, rfl, ?_⟩; have n0_ := Aside0.mk (Kd.R_below (zrp (Kd.R_mono (Kd.R_far (p := ⟨gb599, 1, none⟩) (Kd.R_far (p := ⟨gb599, 0, none⟩) (Kd.R_mono HO_6.out (fun k_ hk => (⟨hk, hk.2⟩ : _ ∧ k_ ≠ gb599))) (fun _ hk => hk.2) (.int .i64 ((rd_T39 t539 x354_6).f0))) (fun _ hk => hk.2) (.int .i64 ((rd_T39 t539 x354_6).f1))) (fun _ h_ => h_.1))) hb); have n1_ := Aside0.mk (Kd.R_below (zrp (Kd.R_mono (Kd.R_far (p := ⟨gb599, 1, none⟩) (Kd.R_far (p := ⟨gb599, 0, none⟩) (Kd.R_types HO_8.out BK599.out (by decide)) (fun _ hk => hk.2) (.int .i64 ((rd_T39 t539 x354_6).f0))) (fun _ hk => hk.2) (.int .i64 ((rd_T39 t539 x354_6).f1))) (fun _ h_ => h_.1))) hb); have n2_ := Aside0.mk (Kd.R_below (zrp (Kd.R_mono (Kd.R_far (p := ⟨gb599, 1, none⟩) (Kd.R_far (p := ⟨gb599, 0, none⟩) (Kd.R_mono HO_352.out (fun k_ hk => (⟨hk, hk.2⟩ : _ ∧ k_ ≠ gb599))) (fun _ hk => hk.2) (.int .i64 ((rd_T39 t539 x354_6).f0))) (fun _ hk => hk.2) (.int .i64 ((rd_T39 t539 x354_6).f1))) (fun _ h_ => h_.1))) hb); have n3_ := Aside0.mk (blk_below (g := gb599) (o := .cells #[.int .i64 ((rd_T39 t539 x354_6).f0), .int .i64 ((rd_T39 t539 x354_6).f1)] 39 (0, 0)) (zw BK599) hb); replace HB := zh HB hb; clear HO_6; have HO_6 := n0_; clear n0_; clear HO_8; have HO_8 := n1_; clear n1_; clear HO_352; have HO_352 := n2_; clear n2_; clear BK599; have BK599 := n3_; clear n3_; clear hb; replace hz599 := zc2 BK599))
                        go_roundg k6
                        case measure => have := HJ13.out; have := HJ117.out; have := HK3.out; have := HK4.out; have := HJ170.out; have := HK6.out; omega
                        case rel => exact ⟨(decide ((wrap64 (x43_4 * t601)) ≤ t600)), (wrap64 (x354_6 + 1)), zu, zu, H', ⟨by have := HJ13.out; have := HJ117.out; have := HK3.out; have := HK4.out; have := HJ170.out; have := HK6.out; omega⟩, ⟨by (with_reducible repeat (first | apply Kd.R_alloc | apply Kd.R_drewN | apply Kd.R_drew)); exact Kd.R_mono HO_6.out (fun _ hk => trivial)⟩, zp HO_8, ⟨by (with_reducible repeat (first | apply Kd.R_alloc | apply Kd.R_drewN | apply Kd.R_drew)); exact Kd.R_mono HO_352.out (fun _ hk => trivial)⟩, ⟨zy HB⟩⟩
                      ·rw [if_neg c183] at H
                       have c183b0 := decide_eq_false c183; clear c183; have H' := Aside0.mk H; clear H
                       have p598 : 0 ≤ (x354_6 : Int) := of_decide_eq_true zU3_5
                       have q598 : x354_6 < (t539.length : Int) := of_decide_eq_true zU3_5
                       obtain ⟨ad598, e598, hx598_0, hx598_1⟩ := at_T39 (Kd.R_reads' HO_352.out).2.2 x354_6 p598 q598
                       obtain rfl : ad574 = ad598 := (by injection e598)
                       replace p598 := eq_true p598; replace q598 := eq_true q598
                       as_aux_lemma =>
                        go_wp2_with (first | ((with_reducible refine gate_dst (N := 46) rfl ?_); (try (refine gate_guard (by rfl) ?_; dsimp only)); refine zE 46 #[.int .i64 0, .int .i64 0] 39 ?_; intro gb599 hg w188 hbox hb; have n0_ := Aside0.mk (Kd.R_below (Kd.R_elderB (zs HO_6) gb599 (Nat.le_of_eq hg.symm)) hb); have n2_ := Aside0.mk (Kd.R_below (Kd.R_elderB (zs HO_352) gb599 (Nat.le_of_eq hg.symm)) hb); have BK599 := Aside0.mk (hbox); have GW599 := zg HB hg; replace HO_8 := zo HO_8 hb; replace HB := zh HB hb; clear HO_6; have HO_6 := n0_; clear n0_; clear HO_352; have HO_352 := n2_; clear n2_; clear hb hbox hg; replace hz599 := zc2 BK599) | ((with_reducible refine gate_callee (f := 20) rfl ?_); refine zG (some 361) Tryz.func20 #[.int .i64 t538, .agg #[.int .i64 ((rd_T39 t539 x354_6).f0), .int .i64 ((rd_T39 t539 x354_6).f1)]] ?_; (with_reducible refine (impl_ShadowEnd.calls k6 t538 ((rd_T39 t539 x354_6).f0) ((rd_T39 t539 x354_6).f1) t600 t601 true _ A177.out).mono ?_); rintro e w190 ⟨rfl, hb⟩; refine ⟨_, rfl, ?_⟩; have n0_ := Aside0.mk (Kd.R_below (zrp (Kd.R_mono (Kd.R_far (p := ⟨gb599, 1, none⟩) (Kd.R_far (p := ⟨gb599, 0, none⟩) (Kd.R_mono HO_6.out (fun k_ hk => (⟨hk, hk.2⟩ : _ ∧ k_ ≠ gb599))) (fun _ hk => hk.2) (.int .i64 ((rd_T39 t539 x354_6).f0))) (fun _ hk => hk.2) (.int .i64 ((rd_T39 t539 x354_6).f1))) (fun _ h_ => h_.1))) hb); have n1_ := Aside0.mk (Kd.R_below (zrp (Kd.R_mono (Kd.R_far (p := ⟨gb599, 1, none⟩) (Kd.R_far (p := ⟨gb599, 0, none⟩) (Kd.R_types HO_8.out BK599.out (by decide)) (fun _ hk => hk.2) (.int .i64 ((rd_T39 t539 x354_6).f0))) (fun _ hk => hk.2) (.int .i64 ((rd_T39 t539 x354_6).f1))) (fun _ h_ => h_.1))) hb); have n2_ := Aside0.mk (Kd.R_below (zrp (Kd.R_mono (Kd.R_far (p := ⟨gb599, 1, none⟩) (Kd.R_far (p := ⟨gb599, 0, none⟩) (Kd.R_mono HO_352.out (fun k_ hk => (⟨hk, hk.2⟩ : _ ∧ k_ ≠ gb599))) (fun _ hk => hk.2) (.int .i64 ((rd_T39 t539 x354_6).f0))) (fun _ hk => hk.2) (.int .i64 ((rd_T39 t539 x354_6).f1))) (fun _ h_ => h_.1))) hb); have n3_ := Aside0.mk (blk_below (g := gb599) (o := .cells #[.int .i64 ((rd_T39 t539 x354_6).f0), .int .i64 ((rd_T39 t539 x354_6).f1)] 39 (0, 0)) (zw BK599) hb); replace HB := zh HB hb; clear HO_6; have HO_6 := n0_; clear n0_; clear HO_8; have HO_8 := n1_; clear n1_; clear HO_352; have HO_352 := n2_; clear n2_; clear BK599; have BK599 := n3_; clear n3_; clear hb; replace hz599 := zc2 BK599))
                        go_roundg k6
                        case measure => have := HJ13.out; have := HJ117.out; have := HK3.out; have := HK4.out; have := HJ170.out; have := HK6.out; omega
                        case rel => exact ⟨(false), (wrap64 (x354_6 + 1)), zu, zu, H', ⟨by have := HJ13.out; have := HJ117.out; have := HK3.out; have := HK4.out; have := HJ170.out; have := HK6.out; omega⟩, ⟨by (with_reducible repeat (first | apply Kd.R_alloc | apply Kd.R_drewN | apply Kd.R_drew)); exact Kd.R_mono HO_6.out (fun _ hk => trivial)⟩, zp HO_8, ⟨by (with_reducible repeat (first | apply Kd.R_alloc | apply Kd.R_drewN | apply Kd.R_drew)); exact Kd.R_mono HO_352.out (fun _ hk => trivial)⟩, ⟨zy HB⟩⟩
                    ·replace c178 := Bool.eq_false_iff.mpr c178
                     subst c178; rw [if_neg (show ¬ (false = true) by decide)] at H
                     obtain rfl := Option.some.inj H
                     exact absurd HR_.out (by decide)
                   ·rw [if_neg c176] at H
                    exact absurd H (by simp)
                  ·rw [if_neg c175] at H
                   exact absurd H (by simp)
                 ·rw [if_neg c174] at H
                  have c174b0 := decide_eq_false c174; clear c174; obtain ⟨t603, A192, H⟩ := zB H; (try dsimp only at H)
                  by_cases c193 : (x44_6 != t603) = true
                  ·rw [if_pos c193] at H
                   have c193b0 : (x44_6 != t603) = true := c193
                   (try (have c193b1 : decide (x44_6 = t603) = false := by simpa using c193))
                   (try (have c193b2 : (x44_6 == t603) = false := by simpa using c193))
                   (try (have c193b3 : ¬ (x44_6 = t603) := by simpa using c193))
                   clear c193
                   obtain rfl := Option.some.inj H
                   exact absurd HR_.out (by decide)
                  ·rw [if_neg c193] at H
                   have c193b0 : (x44_6 != t603) = false := by simpa using c193
                   (try (have c193b1 : decide (x44_6 = t603) = true := by simpa using c193))
                   (try (have c193b2 : (x44_6 == t603) = true := by simpa using c193))
                   clear c193; have H' := Aside0.mk H; clear H
                   obtain ⟨Ao194, co194, eo194⟩ := Kd.R_slice HO_8.out
                   subst eo194
                   as_aux_lemma =>
                    go_wp2_with (first | ((with_reducible refine gate_callee (f := 19) rfl ?_); refine zG (some 385) Tryz.func19 #[.slice Ao194 t543.length co194, .int .i64 x43_4] ?_; (with_reducible refine (laws_yHas.calls k6 _ _ t543 x43_4 t603 _ ?side1 ?side2 A192.out).mono ?_); (case side1 => repeat (first | exact (Kd.R_reads' HO_8.out).2.2 | (with_reducible refine Kd.C_alloc ?_ _) | (with_reducible refine Kd.C_drewN ?_ _) | (with_reducible refine Kd.C_drew ?_))); (case side2 => exact (Kd.R_reads' HO_8.out).2.1); rintro e w' ⟨rfl, ⟨nd, rfl⟩⟩; refine ⟨_, rfl, ?_⟩))
                    go_roundg k6
                    case measure => have := HJ13.out; have := HJ117.out; have := HK3.out; have := HK4.out; have := HJ170.out; have := HK6.out; omega
                    case rel => exact ⟨(wrap64 (x43_4 + 1)), zu, H', ⟨by have := HJ13.out; have := HJ117.out; have := HK3.out; have := HK4.out; have := HJ170.out; have := HK6.out; omega⟩, zp HO_6, zp HO_8, ⟨zy HB⟩⟩
             ·replace c173 := Bool.eq_false_iff.mpr c173
              subst c173; rw [if_neg (show ¬ (false = true) by decide)] at H; obtain ⟨t597, A195, H⟩ := zB H; (try dsimp only at H)
              by_cases c196 : t597 = true
              ·subst c196
               rw [if_pos rfl] at H; have H' := Aside0.mk H; clear H
               obtain ⟨Ao197, co197, eo197⟩ := Kd.R_slice HO_8.out
               subst eo197
               as_aux_lemma =>
                go_wp2_with (first | ((with_reducible refine gate_callee (f := 18) rfl ?_); refine zG (some 388) Tryz.func18 #[.slice Ao197 t543.length co197] ?_; (with_reducible refine (laws_yRises.calls kj170 _ _ t543 true _ ?side1 ?side2 A195.out).mono ?_); (case side1 => repeat (first | exact (Kd.R_reads' HO_8.out).2.2 | (with_reducible refine Kd.C_alloc ?_ _) | (with_reducible refine Kd.C_drewN ?_ _) | (with_reducible refine Kd.C_drew ?_))); (case side2 => exact (Kd.R_reads' HO_8.out).2.1); rintro e w' ⟨rfl, ⟨nd, rfl⟩⟩; refine ⟨_, rfl, ?_⟩))
                all_goals (go_meet; (case rel => exact ⟨_, H', ⟨by have := HJ13.out; have := HJ117.out; have := HK3.out; have := HK4.out; have := HJ170.out; first | omega | exact Nat.le_refl _⟩, ⟨zy HB⟩⟩))
              ·replace c196 := Bool.eq_false_iff.mpr c196
               subst c196; rw [if_neg (show ¬ (false = true) by decide)] at H
               obtain rfl := Option.some.inj H
               exact absurd HR_.out (by decide)
      ·replace c170 := Bool.eq_false_iff.mpr c170
       subst c170; rw [if_neg (show ¬ (false = true) by decide)] at H; have H' := Aside0.mk H; clear H
       as_aux_lemma =>
        go_wp2
        all_goals (go_meet; (case rel => exact ⟨_, H', ⟨by have := HJ13.out; have := HJ117.out; have := HK3.out; first | omega | exact Nat.le_refl _⟩, ⟨zy HB⟩⟩))
     ·replace c169 := Bool.eq_false_iff.mpr c169
      subst c169; rw [if_neg (show ¬ (false = true) by decide)] at H
      obtain rfl := Option.some.inj H
      exact absurd HR_.out (by decide)
end Go.Proofs.YtknjpbkkbnmfaaaGreatDoor.P
