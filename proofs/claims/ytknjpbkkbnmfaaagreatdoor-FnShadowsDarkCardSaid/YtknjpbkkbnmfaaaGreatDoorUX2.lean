/- A part of the proof of the law laws_FnShadowsDark: what follows from one point of its walk on. Every input that the given rows speak of; nothing else is asked. -/
import Derived.Test.YtknjpbkkbnmfaaaGreatDoorUX0
set_option maxHeartbeats 8000000
set_option maxRecDepth 100000
set_option linter.unusedVariables false
namespace Go.Proofs.YtknjpbkkbnmfaaaGreatDoor.P
open Go.RowKit Go.Proofs.YtknjpbkkbnmfaaaGreatDoorW.PrintWords Go.Proofs.YtknjpbkkbnmfaaaGreatDoorW.PrintLast Go.Proofs.YtknjpbkkbnmfaaaGreatDoorW.PrintMore
attribute [local go_sem] max2_int min2_int max_two min_two max_three min_three max_four min_four   -- for this text's walks alone
set_option linter.unusedVariables false
set_option linter.unusedSimpArgs false
attribute [local go_sem high] zandFnShadowsDark
attribute [local simp high] zandFnShadowsDark
attribute [local go_sem] zset2
attribute [local go_sem high] zcellD zfrozenD
attribute [local simp high] zcellD zfrozenD
set_option maxHeartbeats 60000000 in
set_option maxRecDepth 100000 in
theorem laws_FnShadowsDark.part1 (k : Nat) (A0 : Option Addr) (c0 : Nat) (l0 : List Int) (A1 : Option Addr) (c1 : Nat) (l1 : List Int) (w : World) : (laws_FnShadowsDark.parts k A0 c0 l0 A1 c1 l1 w).1.2 := by
  intro r HR_ HL_ hu39 HR0 HC0 HR1 HC1 y_8 A3 y_10 t538 t539 t540 A5 y_15 t543 t544 A6 y_19 t547 t548 A7 y_23 t551 t552 A8 y_27 t555 t556 A9 y_31 t559 t560 A10 y_35 t561 t562 A11 y_39 t563 t564 t565 A12 y_44 t566 t567 t568 A13 y_49 nd y_51 w15 Ao16 co16 w17 v545 w18 v549 w19 v553 w20 v557 w21 w22 w23 w24 HO542 HO546 HO550 HO554 HO558 y_72 y_73 y_74 y_75 y_76 y_77 y_78 y_79 y_80 y_81 y_82 y_83 y_84 y_85 y_86 y_87 y_88 y_89 y_90 y_91 y_92 y_93 y_94 y_95 y_96 y_97 y_98 y_99 y_100 y_101 y_102 y_103 y_104 y_105 y_106 y_107 y_108 y_109 y_110 y_111 y_112 y_113 y_114 y_115 y_116 y_117 y_118 y_119 y_120 y_121 y_122 y_123 y_124 y_125 y_126 y_127 y_128 y_129 y_130 y_131 y_132 y_133 y_134 y_135 y_136 y_137 y_138 y_139 y_140 y_141 y_142 y_143 y_144 y_145 y_146 y_147 y_148 y_149 y_150 y_151 y_152 y_153 y_154 y_155 y_156 y_157 y_158 y_159 y_160 y_161 y_162 y_163 y_164 y_165 y_166 y_167 y_168 y_169 y_170 y_171 y_172 y_173 y_174 y_175 y_176 y_177 y_178 y_179 y_180 y_181 y_182 y_183 y_184 y_185 y_186 y_187 y_188 y_189 y_190 y_191 y_192 y_193 y_194 y_195 y_196 y_197 y_198 y_199 y_200 y_201 y_202 y_203 y_204 y_205 y_206 y_207 y_208 y_209 y_210 y_211 y_212 y_213 y_214 y_215 y_216 y_217 y_218 y_219 y_220 y_221 y_222 y_223 y_224 y_225 y_226 y_227 y_228 y_229 y_230 y_231 y_232 y_233 y_234 y_235 y_236 y_237 y_238 y_239 y_240 y_241 y_242 y_243 y_244 y_245 y_246 y_247 y_248 y_249 y_250 y_251 y_252 y_253 y_254 y_255 y_256 y_257 y_258 y_259 y_260 y_261 y_262 y_263 y_264 y_265 y_266 y_267 y_268 y_269 y_270 y_271 y_272 y_273 y_274 y_275 y_276 y_277 y_278 y_279 y_280 y_281 y_282 y_283 y_284 y_285 y_286 y_287 y_288 y_289 y_290 y_291 y_292 y_293 y_294 y_295 y_296 y_297 y_298 y_299 y_300 y_301 y_302 y_303 y_304 y_305 y_306 y_307 y_308 y_309 y_310 y_311 y_312 y_313 y_314 y_315 y_316 y_317 y_318 y_319 y_320 y_321 y_322 y_323 y_324 y_325 y_326 y_327 y_328 y_329 y_330 y_331 y_332 y_333 y_334 y_335 y_336 y_337 y_338 y_339 y_340 y_341 y_342 y_343 y_344 y_345 y_346 y_347 y_348 y_349 y_350 y_351 y_352 y_353 y_354 y_355 y_356 y_357 y_358 y_359 y_360 y_361 y_362 y_363 y_364 y_365 y_366 y_367 y_368 y_369 y_370 y_371 y_372 y_373 y_374 y_375 y_376 y_377 y_378 y_379 y_380 y_381 y_382 y_383 y_384 y_385 y_386 y_387 y_388 y_389 y_390 y_391 y_392 y_393 y_394 y_395 y_396 y_397 y_398 y_399 y_400 y_401 y_402 y_403 y_404 y_405 y_406 y_407 y_408 y_409 y_410 y_411 y_412 y_413 y_414 y_415 y_416 y_417 y_418 y_419 y_420 y_421 y_422 y_423 y_424 y_425 y_426 y_427 y_428 y_429 y_430 y_431 y_432 y_433 y_434 y_435 y_436 y_437 y_438 y_439 y_440 y_441 y_442 y_443 y_444 y_445 y_446 y_447 y_448 y_449 y_450 y_451 y_452 y_453 y_454 y_455 y_456 y_457 y_458 y_459 y_460 y_461 y_462 y_463 y_464 y_465 y_466 y_467 y_468 y_469 y_470 y_471 y_472 y_473 y_474 y_475 y_476 y_477 y_478 y_479 y_480 y_481 y_482 y_483 y_484 y_485 y_486 y_487 y_488 y_489 y_490 y_491 y_492 y_493 y_494 y_495 y_496 y_497 y_498 y_499 y_500 y_501 y_502 y_503 y_504 y_505 y_506 y_507 y_508 y_509 y_510 y_511 y_512 y_513 y_514 y_515 y_516 y_517 y_518 y_519 y_520 y_521 y_522 y_523 y_524 y_525 y_526 y_527 y_528 y_529 y_530 y_531 y_532 y_533 y_534 HO_6 HO_8 HO_12 y_538 kj13 HJ13 wc u4 u26 u27 u28 u29 u30 u31 u32 u33 u34 u35 u36 u37 u38 u40 u41 u42 u43 u44 u46 u47 u48 u49 u81 u82 u83 u84 u85 u86 u87 u88 u89 u90 u91 u92 u93 u94 u95 u96 u97 u98 u99 u100 u101 u102 u103 u104 u105 u106 u107 u108 u109 u110 u111 u112 u113 u114 u115 u116 u117 u118 u119 u120 u121 u122 u123 u124 u125 u126 u127 u128 u129 u130 u131 u132 u133 u134 u135 u136 u137 u138 u139 u140 u141 u142 u143 u144 u145 u146 u147 u148 u149 u150 u151 u152 u153 u154 u155 u156 u157 u158 u159 u160 u161 u162 u163 u164 u165 u166 u167 u168 u169 u170 u171 u172 u173 u174 u175 u176 u177 u178 u179 u180 u181 u182 u183 u184 u185 u186 u187 u188 u189 u190 u191 u192 u193 u194 u195 u196 u197 u198 u199 u200 u201 u202 u203 u204 u205 u206 u207 u208 u209 u210 u211 u212 u213 u214 u215 u216 u217 u218 u219 u220 u221 u222 u223 u224 u225 u226 u227 u228 u229 u230 u231 u232 u233 u234 u235 u236 u237 u238 u239 u240 u241 u242 u243 u244 u245 u246 u247 u248 u249 u250 u251 u252 u253 u254 u255 u256 u257 u258 u259 u260 u261 u262 u263 u264 u265 u266 u267 u268 u269 u270 u271 u272 u273 u274 u275 u276 u277 u278 u279 u280 u281 u282 u283 u284 u285 u286 u287 u288 u289 u290 u291 u292 u293 u294 u295 u296 u297 u298 u299 u300 u301 u302 u303 u304 u305 u306 u307 u308 u309 u310 u311 u312 u313 u314 u315 u316 u317 u318 u319 u320 u321 u322 u323 u324 u325 u326 u327 u328 u329 u330 u331 u332 u333 u334 u335 u336 u337 u338 u339 u340 u341 u342 u343 u344 u345 u346 u347 u348 u349 u350 u351 u352 u353 u354 u355 u356 u357 u358 u359 u360 u361 u362 u363 u364 u365 u366 u367 u368 u369 u370 u371 u372 u373 u374 u375 u376 u377 u378 u379 u380 u381 u382 u383 u384 u385 u386 u387 u388 u389 u390 u391 u392 u393 u394 u395 u396 u397 u398 u399 u400 u401 u402 u403 u404 u405 u406 u407 u408 u409 u410 u411 u412 u413 u414 u415 u416 u417 u418 u419 u420 u421 u422 u423 u424 u425 u426 u427 u428 u429 u430 u431 u432 u433 u434 u435 u436 u437 u438 u439 u440 u441 u442 u443 u444 u445 u446 u447 u448 u449 u450 u451 u452 u453 u454 u455 u456 u457 u458 u459 u460 u461 u462 u463 u464 u465 u466 u467 u468 u469 u470 u471 u472 u473 u474 u475 u476 u477 u478 u479 u480 u481 u482 u483 u484 u485 u489 u490 u491 u492 u493 u494 u495 u496 u497 u498 u499 u500 u501 u502 u503 u504 u505 u506 u507 u508 u509 u510 u511 u512 u513 u514 u515 u516 u517 u518 u519 u520 u521 u522 u523 u524 u525 u526 u527 u528 u529 u530 u531 u532 u533 u534 u535 u536 u537 u538 u539 u540 u541 u542 u543 u544 u545 u546 u547 u548 u549 u550 u551 u552 u553 u554 kj112 HJ112 y_1038 t604 t605 t606 t607 t608 A198 y_1045 t611 t612 A199 y_1049 t613 t614 A200 y_1053 t615 A201 y_1056 t616 t617 A202 y_1060 t620 t621 A203 y_1064 t624 A204 y_1067 t627 t628 A205 y_1071 t629 t630 A206 y_1075 t631 A207 y_1078 t632 t633 A208 H t636 t637 A209 HC210 w211 gb609 w212 GW609 gb610 w213 GW610 NB609_610 NB610_609 hNB609_610 hNB610_609 w217 hz609 hz610 w220 w221 w222 v618 w223 v622 w224 Ao225 co225 w226 HO626 BK609 BK610 HB HO619 HO623 y_1117 y_1118
  go_upto_region 70 with (first | ((with_reducible refine gate_callee (f := 29) rfl ?_); refine zG (some 431) Tryz.func29 #[.slice Ao225 t624.length co225] ?_; (with_reducible refine (spec_PolesText.calls kj112 _ _ t624 t629 t630 _ ?side1 ?side2 A206.out).mono ?_); (case side1 => repeat (first | exact (Kd.R_reads' HO626.out).2.2 | (with_reducible refine Kd.C_alloc ?_ _) | (with_reducible refine Kd.C_drewN ?_ _) | (with_reducible refine Kd.C_drew ?_))); (case side2 => exact (Kd.R_reads' HO626.out).2.1); rintro e w227 ⟨rfl, hb⟩; refine ⟨_, rfl, ?_⟩; have n0_ := Aside0.mk (Kd.S_below zU3_3 hb); have n1_ := Aside0.mk (Kd.S_below zU3_4 hb); replace HO626 := zo HO626 hb; replace BK609 := zb BK609 hb; replace BK610 := zb BK610 hb; replace HB := zh HB hb; clear HO619; have HO619 := n0_; clear n0_; clear HO623; have HO623 := n1_; clear n1_; clear hb) | ((with_reducible refine gate_callee (f := 30) rfl ?_); refine zG (some 435) Tryz.func30 #[.slice A1 l1.length c1] ?_; (with_reducible refine (spec_DrawParsePoles.calls kj112 _ _ l1 t631 _ ?side1 ?side2 A207.out).mono ?_); (case side1 => exact zC HR1 HB); (case side2 => exact HC1.out); rintro e w228 ⟨rfl, hb⟩; refine ⟨_, rfl, ?_⟩; have n0_ := Aside0.mk (Kd.S_below zU3_3 hb); have n1_ := Aside0.mk (Kd.S_below zU3_4 hb); replace HO626 := zo HO626 hb; replace BK609 := zb BK609 hb; replace BK610 := zb BK610 hb; replace HB := zh HB hb; clear HO619; have HO619 := n0_; clear n0_; clear HO623; have HO623 := n1_; clear n1_; clear hb) | ((with_reducible refine gate_callee (f := 31) rfl ?_); refine zG (some 438) Tryz.func31 #[.string t631] ?_; (with_reducible refine (impl_ParsePoles.calls kj112 t631 t632 t633 _ (LaidQ.below HL_.out (zy HB)) A208.out).mono ?_); rintro e w229 ⟨v634, rfl, ho0, hb⟩; refine ⟨_, rfl, ?_⟩; have n0_ := Aside0.mk (Kd.S_below zU3_3 hb); have n1_ := Aside0.mk (Kd.S_below zU3_4 hb); have n2_ := Aside0.mk (Kd.R_elder' (zs HO626) (Kd.R_base ho0) hb); have HO635 := Aside0.mk (Kd.R_lower (Kd.R_newB (Kd.R_newB (Kd.R_new' ho0 (Kd.R_lt (zs HO626))) (zq BK609)) (zq BK610)) (below_size (zy HB))); replace BK609 := zb BK609 hb; replace BK610 := zb BK610 hb; replace HB := zh HB hb; clear HO619; have HO619 := n0_; clear n0_; clear HO623; have HO623 := n1_; clear n1_; clear HO626; have HO626 := n2_; clear n2_; clear hb ho0) | ((with_reducible refine gate_callee (f := 32) rfl ?_); refine zG (some 443) Tryz.func32 #[.string t631] ?_; (with_reducible refine (spec_ParsePoles.calls kj112 t631 t636 t637 _ A209.out).mono ?_); rintro e w230 ⟨v638, rfl, ho0, hb⟩; refine ⟨_, rfl, ?_⟩; have n0_ := Aside0.mk (Kd.S_below zU3_3 hb); have n1_ := Aside0.mk (Kd.S_below zU3_4 hb); have n2_ := Aside0.mk (Kd.R_elder' (zs HO626) (Kd.R_base ho0) hb); have n3_ := Aside0.mk (Kd.R_elder' (zs HO635) (Kd.R_base ho0) hb); have HO639 := Aside0.mk (Kd.R_lower (Kd.R_newB (Kd.R_newB (Kd.R_new' (Kd.R_new' ho0 (Kd.R_lt (zs HO626))) (Kd.R_lt (zs HO635))) (zq BK609)) (zq BK610)) (below_size (zy HB))); replace BK609 := zb BK609 hb; replace BK610 := zb BK610 hb; replace HB := zh HB hb; clear HO619; have HO619 := n0_; clear n0_; clear HO623; have HO623 := n1_; clear n1_; clear HO626; have HO626 := n2_; clear n2_; clear HO635; have HO635 := n3_; clear n3_; clear hb ho0))
  (try simp only [Act.put, List.setIfInBounds_toArray, List.set_cons_zero, List.set_cons_succ])
  go_cut [485] (fun v485 wc => ∃ (kq : Nat) (x485_209 : Bool), v485 = .bool x485_209 ∧ Aside0 (laws_FnShadowsDark.j10 kq t615 t616 t624 t627 t628 t631 t632 t633 x485_209 = some r) ∧ Aside0 (kq ≤ kj112) ∧ Aside0 (Kd.S (Kd.slice 3 (Kd.int .i64)) 27 wc w.heap.size (fun _ => True) v618 t616) ∧ Aside0 (Kd.R k39 39 wc w.heap.size (fun k_ => some k_ ≠ (v634 : Value).ownBlock) (.slice Ao225 t624.length co225) t624) ∧ Aside0 (Kd.R k39 39 wc w.heap.size (fun k_ => some k_ ≠ ((.slice Ao225 t624.length co225) : Value).ownBlock) v634 t632) ∧ Aside0 (Below w.heap.size w wc))
  case first =>
   have H := HC210.out; clear HC210
   by_cases c231 : (t612 != t614) = true
   ·rw [if_pos c231] at H
    have c231b0 : (t612 != t614) = true := c231
    (try (have c231b1 : decide (t612 = t614) = false := by simpa using c231))
    (try (have c231b2 : (t612 == t614) = false := by simpa using c231))
    (try (have c231b3 : ¬ (t612 = t614) := by simpa using c231))
    clear c231
    (first | rw [c231b0] | (simp only [i64_w, i32_w]; rw [c231b0]) | skip)
    exact absurd (HR_.out.symm.trans (laws_FnShadowsDark.j10_true _ _ _ _ _ _ _ _ _ _ H)) (by decide)
   ·rw [if_neg c231] at H
    have c231b0 : (t612 != t614) = false := by simpa using c231
    (try (have c231b1 : decide (t612 = t614) = true := by simpa using c231))
    (try (have c231b2 : (t612 == t614) = true := by simpa using c231))
    clear c231
    (first | rw [c231b0] | (simp only [i64_w, i32_w]; rw [c231b0]) | skip)
    by_cases c232 : (t611 != t613) = true
    ·rw [if_pos c232] at H
     have c232b0 : (t611 != t613) = true := c232
     (try (have c232b1 : decide (t611 = t613) = false := by simpa using c232))
     (try (have c232b2 : (t611 == t613) = false := by simpa using c232))
     (try (have c232b3 : ¬ (t611 = t613) := by simpa using c232))
     clear c232
     exact absurd (HR_.out.symm.trans (laws_FnShadowsDark.j10_true _ _ _ _ _ _ _ _ _ _ H)) (by decide)
    ·rw [if_neg c232] at H
     have c232b0 : (t611 != t613) = false := by simpa using c232
     (try (have c232b1 : decide (t611 = t613) = true := by simpa using c232))
     (try (have c232b2 : (t611 == t613) = true := by simpa using c232))
     clear c232
     by_cases c233 : (t617 != t621) = true
     ·rw [if_pos c233] at H
      have c233b0 : (t617 != t621) = true := c233
      (try (have c233b1 : decide (t617 = t621) = false := by simpa using c233))
      (try (have c233b2 : (t617 == t621) = false := by simpa using c233))
      (try (have c233b3 : ¬ (t617 = t621) := by simpa using c233))
      clear c233
      exact absurd (HR_.out.symm.trans (laws_FnShadowsDark.j10_true _ _ _ _ _ _ _ _ _ _ H)) (by decide)
     ·rw [if_neg c233] at H
      have c233b0 : (t617 != t621) = false := by simpa using c233
      (try (have c233b1 : decide (t617 = t621) = true := by simpa using c233))
      (try (have c233b2 : (t617 == t621) = true := by simpa using c233))
      clear c233; obtain ⟨t640, A234, H⟩ := zB H; (try dsimp only at H)
      by_cases c235 : t640 = true
      ·subst c235
       rw [if_pos rfl] at H
       by_cases c236 : (t628 != t630) = true
       ·rw [if_pos c236] at H
        have c236b0 : (t628 != t630) = true := c236
        (try (have c236b1 : decide (t628 = t630) = false := by simpa using c236))
        (try (have c236b2 : (t628 == t630) = false := by simpa using c236))
        (try (have c236b3 : ¬ (t628 = t630) := by simpa using c236))
        clear c236
        exact absurd (HR_.out.symm.trans (laws_FnShadowsDark.j10_true _ _ _ _ _ _ _ _ _ _ H)) (by decide)
       ·rw [if_neg c236] at H
        have c236b0 : (t628 != t630) = false := by simpa using c236
        (try (have c236b1 : decide (t628 = t630) = true := by simpa using c236))
        (try (have c236b2 : (t628 == t630) = true := by simpa using c236))
        clear c236
        by_cases c239 : t627.toList = t629.toList
        ·rw [if_pos c239] at H
         have c239b0 := beq_iff_eq.mpr c239; have c239b1 := bne_eq_false_iff_eq.mpr c239; clear c239
         by_cases c240 : (t633 != t637) = true
         ·rw [if_pos c240] at H
          have c240b0 : (t633 != t637) = true := c240
          (try (have c240b1 : decide (t633 = t637) = false := by simpa using c240))
          (try (have c240b2 : (t633 == t637) = false := by simpa using c240))
          (try (have c240b3 : ¬ (t633 = t637) := by simpa using c240))
          clear c240
          exact absurd (HR_.out.symm.trans (laws_FnShadowsDark.j10_true _ _ _ _ _ _ _ _ _ _ H)) (by decide)
         ·rw [if_neg c240] at H
          have c240b0 : (t633 != t637) = false := by simpa using c240
          (try (have c240b1 : decide (t633 = t637) = true := by simpa using c240))
          (try (have c240b2 : (t633 == t637) = true := by simpa using c240))
          clear c240; obtain ⟨t641, A243, H⟩ := zB H; (try dsimp only at H); have H' := Aside0.mk H; clear H
          obtain ⟨Ao244, co244, eo244⟩ := Kd.S_slice HO619.out
          subst eo244
          obtain ⟨Ao245, co245, eo245⟩ := Kd.S_slice HO623.out
          subst eo245
          as_aux_lemma =>
           go_wp2_with (first | (go_at_call 33; (with_reducible refine (laws_yRows.calls kj112 _ _ t616 _ _ t620 true _ ?side1 ?side2 ?side3 ?side4 A234.out).mono ?_); (case side1 => repeat (first | exact (Kd.S_reads' HO619.out).2.2 | (with_reducible refine Kd.C_alloc ?_ _) | (with_reducible refine Kd.C_drewN ?_ _) | (with_reducible refine Kd.C_drew ?_))); (case side2 => exact (Kd.S_reads' HO619.out).2.1); (case side3 => repeat (first | exact (Kd.S_reads' HO623.out).2.2 | (with_reducible refine Kd.C_alloc ?_ _) | (with_reducible refine Kd.C_drewN ?_ _) | (with_reducible refine Kd.C_drew ?_))); (case side4 => exact (Kd.S_reads' HO623.out).2.1); rintro e w' ⟨rfl, ⟨nd, rfl⟩⟩; obtain ⟨Ao246, co246, eo246⟩ := Kd.R_slice HO635.out; subst eo246; obtain ⟨Ao247, co247, eo247⟩ := Kd.R_slice HO639.out; subst eo247) | (go_at_call 34; (with_reducible refine (laws_yPoles.calls kj112 _ _ t632 _ _ t636 t641 _ ?side1 ?side2 ?side3 ?side4 A243.out).mono ?_); (case side1 => repeat (first | exact (Kd.R_reads' HO635.out).2.2 | (with_reducible refine Kd.C_alloc ?_ _) | (with_reducible refine Kd.C_drewN ?_ _) | (with_reducible refine Kd.C_drew ?_))); (case side2 => exact (Kd.R_reads' HO635.out).2.1); (case side3 => repeat (first | exact (Kd.R_reads' HO639.out).2.2 | (with_reducible refine Kd.C_alloc ?_ _) | (with_reducible refine Kd.C_drewN ?_ _) | (with_reducible refine Kd.C_drew ?_))); (case side4 => exact (Kd.R_reads' HO639.out).2.1); rintro e w' ⟨rfl, ⟨nd, rfl⟩⟩))
           all_goals (go_meet; (case rel => exact ⟨_, (!t641), zu, H', ⟨by have := HJ13.out; have := HJ112.out; first | omega | exact Nat.le_refl _⟩, ⟨by (with_reducible repeat (first | apply Kd.S_alloc | apply Kd.S_drewN | apply Kd.S_drew)); exact Kd.S_mono HO619.out (fun _ hk => trivial)⟩, ⟨by (with_reducible repeat (first | apply Kd.R_alloc | apply Kd.R_drewN | apply Kd.R_drew)); exact Kd.R_mono HO626.out (fun _ hk => hk.1.2)⟩, ⟨by (with_reducible repeat (first | apply Kd.R_alloc | apply Kd.R_drewN | apply Kd.R_drew)); exact Kd.R_mono HO635.out (fun _ hk => hk.1.1.1.2)⟩, ⟨zy HB⟩⟩))
        ·rw [if_neg c239] at H
         have c239b0 := beq_eq_false_iff_ne.mpr c239; have c239b1 := bne_iff_ne.mpr c239
         exact absurd (HR_.out.symm.trans (laws_FnShadowsDark.j10_true _ _ _ _ _ _ _ _ _ _ H)) (by decide)
      ·replace c235 := Bool.eq_false_iff.mpr c235
       subst c235; rw [if_neg (show ¬ (false = true) by decide)] at H
       exact absurd (HR_.out.symm.trans (laws_FnShadowsDark.j10_true _ _ _ _ _ _ _ _ _ _ H)) (by decide)
  case rest =>
   (try clear hz581); (try clear hz593); (try clear hz599); (try clear hz609); (try clear hz610)
   clear HC210
   obtain ⟨kq, x485_209, rfl, HA, HJ209, HO_58, HO_62, HO_68, HB⟩ := hcut
   cases kq with
   | zero => exact absurd HA.out (by simp [laws_FnShadowsDark.j10])
   | succ kj209 =>
    have H := HA.out; clear HA; simp only [laws_FnShadowsDark.j10] at H
    by_cases c252 : x485_209 = true
    ·subst c252
     rw [if_pos rfl] at H
     obtain rfl := Option.some.inj H
     exact absurd HR_.out (by decide)
    ·replace c252 := Bool.eq_false_iff.mpr c252
     subst c252; rw [if_neg (show ¬ (false = true) by decide)] at H; have H' := Aside0.mk H; clear H
     obtain ⟨Ao253, co253, eo253⟩ := Kd.S_slice HO_58.out
     subst eo253
     as_aux_lemma =>
      go_wp2
      go_loopg [488] kj209 (fun kq v488 w' => ∃ (x488_4 : Int), v488 = .int .i64 x488_4 ∧ Aside0 (laws_FnShadowsDark.l4 kq t615 t624 t627 t628 t631 t632 t633 t616 (t616.length : Int) x488_4 = some r) ∧ Aside0 (kq ≤ kj209) ∧ Aside0 (Kd.R k39 39 w' w.heap.size (fun k_ => some k_ ≠ (v634 : Value).ownBlock) (.slice Ao225 t624.length co225) t624) ∧ Aside0 (Kd.R k39 39 w' w.heap.size (fun k_ => some k_ ≠ ((.slice Ao225 t624.length co225) : Value).ownBlock) v634 t632) ∧ Aside0 (Kd.S (Kd.slice 3 (Kd.int .i64)) 27 w' w.heap.size (fun _ => True) (.slice Ao253 t616.length co253) t616) ∧ Aside0 (Below w.heap.size w w'))
      case atStart => exact ⟨(0), zu, H', ⟨Nat.le_refl _⟩, zp HO_62, zp HO_68, ⟨by (with_reducible repeat (first | apply Kd.S_alloc | apply Kd.S_drewN | apply Kd.S_drew)); exact HO_58.out⟩, ⟨zy HB⟩⟩
      case round =>
       clear H'
       obtain ⟨x488_4, rfl, HA, HK4, HO_62, HO_68, HO_486, HB⟩ := hrel
       cases gk with
       | zero => exact absurd HA.out (by simp [laws_FnShadowsDark.l4])
       | succ k4 =>
        have H := HA.out; clear HA; simp only [laws_FnShadowsDark.l4] at H
        by_cases c254 : x488_4 < (t616.length : Int)
        ·rw [if_pos c254] at H
         have c254b0 := decide_eq_true c254; clear c254
         by_cases c255 : 0 ≤ x488_4
         ·rw [if_pos c255] at H
          have c255b0 := decide_eq_true c255; clear c255
          by_cases c256 : x488_4 < (t616.length : Int)
          ·rw [if_pos c256] at H
           have c256b0 := decide_eq_true c256; clear c256
           by_cases c257 : 0 < ((rd_L3 t616 x488_4).length : Int)
           ·rw [if_pos c257] at H
            have c257b0 := decide_eq_true c257
            have c257b1 : decide (0 < (rd_L3 t616 x488_4).length) = true := decide_eq_true zU3_6
            clear c257
            by_cases c258 : 1 < ((rd_L3 t616 x488_4).length : Int)
            ·rw [if_pos c258] at H
             have c258b0 := decide_eq_true c258
             have c258b1 : decide (1 < (rd_L3 t616 x488_4).length) = true := decide_eq_true zU3_6
             clear c258; obtain ⟨⟨t645, t646, t647⟩, A259, H⟩ := zB H; (try dsimp only at H)
             by_cases c260 : ((rd_L3 t616 x488_4).length : Int) = 3
             ·rw [if_pos c260] at H
              have c260b0 := beq_iff_eq.mpr c260; have c260b1 := bne_eq_false_iff_eq.mpr c260; clear c260
              by_cases c261 : t647 = true
              ·subst c261
               rw [if_pos rfl] at H
               by_cases c262 : t646 = 1
               ·rw [if_pos c262] at H
                have c262b0 := beq_iff_eq.mpr c262; have c262b1 := bne_eq_false_iff_eq.mpr c262; clear c262
                by_cases c263 : 2 < ((rd_L3 t616 x488_4).length : Int)
                ·rw [if_pos c263] at H
                 have c263b0 := decide_eq_true c263
                 have c263b1 : decide (2 < (rd_L3 t616 x488_4).length) = true := decide_eq_true zU3_6
                 clear c263
                 by_cases c264 : t645 = (rd (rd_L3 t616 x488_4) 2)
                 ·rw [if_pos c264] at H
                  have c264b0 := beq_iff_eq.mpr c264; have c264b1 := bne_eq_false_iff_eq.mpr c264; clear c264; have H' := Aside0.mk H; clear H
                  have p642 : 0 ≤ (x488_4 : Int) := of_decide_eq_true zU3_5
                  have q642 : x488_4 < (t616.length : Int) := of_decide_eq_true zU3_5
                  obtain ⟨ad642, A642_0, c642_0, e642, hx642_0, hl642_0, hi642_0⟩ := at_L3 (Kd.S_reads' HO_486.out).2.2 x488_4 p642 q642
                  cases e642
                  obtain ⟨ce642, hce642, hMe642, hcc642⟩ := Kd.S_get HO_486.out [] x488_4 p642 (by first | exact q642 | exact of_decide_eq_true zU3_5 | (have e_ := (Kd.S_reads' HO_486.out).1; omega))
                  obtain ⟨ve642_0, rfl, ge642_0⟩ := hMe642
                  have hv642_0 := hcc642 0 _ rfl
                  rw [Nat.add_zero, show ((Kd.slice 3 (Kd.int .i64))).sz = 1 from rfl, Nat.mul_one] at hv642_0
                  replace hv642_0 := Option.some.inj (hv642_0.symm.trans hx642_0)
                  rw [hv642_0] at ge642_0
                  have HL642_0 := Aside0.mk (show Kd.R (Kd.int .i64) 3 _ _ _ _ (rd_L3 t616 x488_4) from ge642_0)
                  clear hv642_0 ge642_0; clear hcc642 hce642; have HR642_0 := Aside0.mk hi642_0; have HC642_0 := Aside0.mk hl642_0; clear hi642_0 hl642_0; replace p642 := eq_true p642; replace q642 := eq_true q642
                  as_aux_lemma =>
                   try go_wp2
                   have n2_ := Aside0.mk (Kd.S_drew HO_486.out)
                   have n4_ := Aside0.mk (Kd.C_drew HR642_0.out)
                   replace HO_62 := Aside0.mk (Kd.R_drew HO_62.out); replace HO_68 := Aside0.mk (Kd.R_drew HO_68.out); replace HL642_0 := Aside0.mk (Kd.R_drew HL642_0.out); replace HB := Aside0.mk (below_drew1 HB.out); clear HO_486; have HO_486 := n2_; clear n2_; clear HR642_0; have HR642_0 := n4_; clear n4_
                   have p643 : 0 ≤ (0 : Int) := zU3_6
                   have q643 : 0 < ((rd_L3 t616 x488_4).length : Int) := of_decide_eq_true zU3_5
                   obtain ⟨ad643, e643, hx643_0⟩ := Kd.at_int zU3_1 0 p643 q643
                   cases e643
                   have qi643 : (0 < (rd_L3 t616 x488_4).length) = True := eq_true zU3_6
                   (try rw [show ((0 : Int)).toNat = 0 from rfl] at hx643_0)
                   (try rw [Addr.add_zero'] at hx643_0)
                   replace p643 := eq_true p643; replace q643 := eq_true q643
                   have p644 : 0 ≤ (1 : Int) := zU3_6
                   have q644 : 1 < ((rd_L3 t616 x488_4).length : Int) := of_decide_eq_true zU3_5
                   obtain ⟨ad644, e644, hx644_0⟩ := Kd.at_int zU3_1 1 p644 q644
                   obtain rfl : ad643 = ad644 := (by injection e644)
                   (try simp only [show (1 : Int).toNat = 1 from rfl, Nat.reduceMul, Nat.reduceEqDiff, Go.Addr.add, ↓reduceIte] at hx644_0)
                   have qi644 : (1 < (rd_L3 t616 x488_4).length) = True := eq_true zU3_6
                   (try rw [show ((1 : Int)).toNat = 1 from rfl] at hx644_0)
                   replace p644 := eq_true p644; replace q644 := eq_true q644
                   refine start_ (n := 16) (S := fun w' => w'.cell? ad643 = some (.int .i64 (rd (rd_L3 t616 x488_4) 0)) ∧ w'.cell? ⟨ad643.block, ad643.off + 1, none⟩ = some (.int .i64 (rd (rd_L3 t616 x488_4) 1))) (ds := []) #[false, false, false, false, false, false, false, false, false, false, false, false, false, false, false, false] (by kernel_rfl) rfl rfl ⟨hx643_0, hx644_0⟩ (fun hHeld => ?_); refine with_tabW laws_FnShadowsDark.tab75 laws_FnShadowsDark.bits75 (fun HT_ HW_ => ?_)
                   generalize wr.drew = w265 at HO_62 HO_68 HO_486 HL642_0 HR642_0 HB hx643_0 hx644_0 hHeld ⊢
                   refine zA 0 493 HT_ ?_
                   refine zA 1 494 HT_ ?_
                   refine zA 2 495 HT_ ?_
                   refine zA 4 497 HT_ ?_
                   refine zA 5 498 HT_ ?_
                   refine zT 3 496 HT_ HW_ hHeld ?_
                   refine zT 6 499 HT_ HW_ hHeld ?_
                   refine zA 7 500 HT_ ?_
                   refine zO 8 (some 501) HT_ (fun K hK => ?_)
                   refine goes_ Tryz.func17 (by kernel_rfl) rfl #[.int .i64 t615, .agg #[.int .i64 (rd (rd_L3 t616 x488_4) 0), .int .i64 (rd (rd_L3 t616 x488_4) 1)]] (by rfl) rfl rfl (by (try simp only [List.map_toArray, List.map_cons, List.map_nil]); first | done | rfl | (simp only [List.length_drop, List.length_take]; rfl)) ?_
                   with_reducible refine (impl_ShadowLength.calls k4 t615 (rd (rd_L3 t616 x488_4) 0) (rd (rd_L3 t616 x488_4) 1) t645 t646 true _ A259.out).mono ?_
                   rintro e w266 ⟨rfl, hb⟩
                   have HS0_ := (hb.cell (World.block_lt_of_cell? _ _ (hHeld.1))).trans (hHeld.1)
                   have HS1_ := (hb.cell (World.block_lt_of_cell? _ _ (hHeld.2))).trans (hHeld.2)
                   refine ⟨_, rfl, ?_⟩
                   have n2_ := Aside0.mk (Kd.S_below (by (with_reducible repeat (first | apply Kd.S_alloc | apply Kd.S_drewN | apply Kd.S_drew)); exact HO_486.out) hb)
                   have n4_ := Aside0.mk (Kd.C_below zU3_1 hb)
                   replace HO_62 := zo HO_62 hb; replace HO_68 := zo HO_68 hb; replace HL642_0 := zo HL642_0 hb; replace HB := zh HB hb; clear HO_486; have HO_486 := n2_; clear n2_; clear HR642_0; have HR642_0 := n4_; clear n4_
                   (try clear hb)
                   (try clear hb2)
                   (try clear hk)
                   (try clear hi)
                   refine hK.out _ _ ⟨HS0_, HS1_⟩ (fun hHeld => ?_)
                   clear hK K
                   refine zN 501 ?_
                   refine zA 9 492 HT_ ?_
                   refine zA 10 502 HT_ ?_
                   refine zA 11 503 HT_ ?_
                   refine zA 12 504 HT_ ?_
                   refine zA 13 74 HT_ ?_
                   refine zA 14 75 HT_ ?_
                   refine zA 15 76 HT_ ?_
                   refine done_ (done_of HT_.out (by kernel_rfl)) ?_
                   have p648 : 0 ≤ (2 : Int) := zU3_6
                   have q648 : 2 < ((rd_L3 t616 x488_4).length : Int) := of_decide_eq_true zU3_5
                   obtain ⟨ad648, e648, hx648_0⟩ := Kd.at_int zU3_1 2 p648 q648
                   obtain rfl : ad643 = ad648 := (by injection e648)
                   (try simp only [show (2 : Int).toNat = 2 from rfl, Nat.reduceMul, Nat.reduceEqDiff, Go.Addr.add, ↓reduceIte] at hx648_0)
                   have qi648 : (2 < (rd_L3 t616 x488_4).length) = True := eq_true zU3_6
                   (try rw [show ((2 : Int)).toNat = 2 from rfl] at hx648_0)
                   replace p648 := eq_true p648; replace q648 := eq_true q648
                   try go_wp2
                   go_roundg k4
                   case measure => have := HJ13.out; have := HJ112.out; have := HJ209.out; have := HK4.out; omega
                   case rel => exact ⟨(wrap64 (x488_4 + 1)), zu, H', ⟨by have := HJ13.out; have := HJ112.out; have := HJ209.out; have := HK4.out; omega⟩, zp HO_62, zp HO_68, ⟨by (with_reducible repeat (first | apply Kd.S_alloc | apply Kd.S_drewN | apply Kd.S_drew)); exact HO_486.out⟩, ⟨zy HB⟩⟩
                 ·rw [if_neg c264] at H
                  have c264b0 := beq_eq_false_iff_ne.mpr c264; have c264b1 := bne_iff_ne.mpr c264
                  obtain rfl := Option.some.inj H
                  exact absurd HR_.out (by decide)
                ·rw [if_neg c263] at H
                 exact absurd H (by simp)
               ·rw [if_neg c262] at H
                have c262b0 := beq_eq_false_iff_ne.mpr c262; have c262b1 := bne_iff_ne.mpr c262
                obtain rfl := Option.some.inj H
                exact absurd HR_.out (by decide)
              ·replace c261 := Bool.eq_false_iff.mpr c261
               subst c261; rw [if_neg (show ¬ (false = true) by decide)] at H
               obtain rfl := Option.some.inj H
               exact absurd HR_.out (by decide)
             ·rw [if_neg c260] at H
              have c260b0 := beq_eq_false_iff_ne.mpr c260; have c260b1 := bne_iff_ne.mpr c260
              obtain rfl := Option.some.inj H
              exact absurd HR_.out (by decide)
            ·rw [if_neg c258] at H
             exact absurd H (by simp)
           ·rw [if_neg c257] at H
            exact absurd H (by simp)
          ·rw [if_neg c256] at H
           exact absurd H (by simp)
         ·rw [if_neg c255] at H
          exact absurd H (by simp)
        ·rw [if_neg c254] at H
         have c254b0 := decide_eq_false c254; clear c254; have HC267 := Aside0.mk H; clear H
         as_aux_lemma =>
          go_upto_region 79 with (fail)
          go_cut [529] (fun v529 wc => ∃ (kq : Nat) (x529_266 : Bool), v529 = .bool x529_266 ∧ Aside0 (laws_FnShadowsDark.j12 kq t624 t627 t631 t632 t633 x529_266 = some r) ∧ Aside0 (kq ≤ k4) ∧ Aside0 (Kd.R k39 39 wc w.heap.size (fun k_ => some k_ ≠ (v634 : Value).ownBlock) (.slice Ao225 t624.length co225) t624) ∧ Aside0 (Kd.R k39 39 wc w.heap.size (fun k_ => some k_ ≠ ((.slice Ao225 t624.length co225) : Value).ownBlock) v634 t632) ∧ Aside0 (Below w.heap.size w wc))
          case first =>
           have H := HC267.out; clear HC267
           by_cases c268 : t628 = true
           ·subst c268
            rw [if_pos rfl] at H; have H' := Aside0.mk H; clear H
            as_aux_lemma =>
             go_wp2
             all_goals (go_meet; (case rel => exact ⟨_, (decide ((t627.size : Int) ≤ 50)), zu, H', ⟨by have := HJ13.out; have := HJ112.out; have := HJ209.out; have := HK4.out; first | omega | exact Nat.le_refl _⟩, zp HO_62, zp HO_68, ⟨zy HB⟩⟩))
           ·replace c268 := Bool.eq_false_iff.mpr c268
            subst c268; rw [if_neg (show ¬ (false = true) by decide)] at H; have H' := Aside0.mk H; clear H
            as_aux_lemma =>
             go_wp2
             all_goals (go_meet; (case rel => exact ⟨_, (false), zu, H', ⟨by have := HJ13.out; have := HJ112.out; have := HJ209.out; have := HK4.out; first | omega | exact Nat.le_refl _⟩, zp HO_62, zp HO_68, ⟨zy HB⟩⟩))
          case rest =>
           (try clear hz581); (try clear hz593); (try clear hz599); (try clear hz609); (try clear hz610)
           clear HC267
           obtain ⟨kq, x529_266, rfl, HA, HJ266, HO_62, HO_68, HB⟩ := hcut
           cases kq with
           | zero => exact absurd HA.out (by simp [laws_FnShadowsDark.j12])
           | succ kj266 =>
            have H := HA.out; clear HA; simp only [laws_FnShadowsDark.j12] at H
            by_cases c269 : x529_266 = true
            ·subst c269
             rw [if_pos rfl] at H; obtain ⟨⟨t649, t650⟩, A270, H⟩ := zB H; (try dsimp only at H); have HC271 := Aside0.mk H; clear H
             as_aux_lemma =>
              go_upto_region 81 with (first | ((with_reducible refine gate_callee (f := 31) rfl ?_); refine zG (some 532) Tryz.func31 #[.string t627] ?_; (with_reducible refine (impl_ParsePoles.calls kj266 t627 t649 t650 _ (LaidQ.below HL_.out (zy HB)) A270.out).mono ?_); rintro e w272 ⟨v651, rfl, ho0, hb⟩; refine ⟨_, rfl, ?_⟩; have n0_ := Aside0.mk (Kd.R_elder' (zs HO_62) (Kd.R_base ho0) hb); have n1_ := Aside0.mk (Kd.R_elder' (zs HO_68) (Kd.R_base ho0) hb); have HO652 := Aside0.mk (Kd.R_lower (Kd.R_new' (Kd.R_new' ho0 (Kd.R_lt (zs HO_62))) (Kd.R_lt (zs HO_68))) (below_size (zy HB))); replace HB := zh HB hb; clear HO_62; have HO_62 := n0_; clear n0_; clear HO_68; have HO_68 := n1_; clear n1_; clear hb ho0))
              (try simp only [Act.put, List.setIfInBounds_toArray, List.set_cons_zero, List.set_cons_succ])
              go_cut [542] (fun v542 wc => ∃ (kq : Nat) (x542_270 : Bool), v542 = .bool x542_270 ∧ Aside0 (laws_FnShadowsDark.j13 kq t631 t632 t633 x542_270 = some r) ∧ Aside0 (kq ≤ kj266) ∧ Aside0 (Kd.R k39 39 wc w.heap.size (fun _ => True) v634 t632) ∧ Aside0 (Below w.heap.size w wc))
              case first =>
               have H := HC271.out; clear HC271
               by_cases c273 : t650 = true
               ·subst c273
                rw [if_pos rfl] at H; obtain ⟨t653, A274, H⟩ := zB H; (try dsimp only at H); have H' := Aside0.mk H; clear H
                obtain ⟨Ao275, co275, eo275⟩ := Kd.R_slice HO652.out
                subst eo275
                as_aux_lemma =>
                 go_wp2_with (first | (go_at_call 34; (with_reducible refine (laws_yPoles.calls kj266 _ _ t649 _ _ t624 t653 _ ?side1 ?side2 ?side3 ?side4 A274.out).mono ?_); (case side1 => repeat (first | exact (Kd.R_reads' HO652.out).2.2 | (with_reducible refine Kd.C_alloc ?_ _) | (with_reducible refine Kd.C_drewN ?_ _) | (with_reducible refine Kd.C_drew ?_))); (case side2 => exact (Kd.R_reads' HO652.out).2.1); (case side3 => repeat (first | exact (Kd.R_reads' HO_62.out).2.2 | (with_reducible refine Kd.C_alloc ?_ _) | (with_reducible refine Kd.C_drewN ?_ _) | (with_reducible refine Kd.C_drew ?_))); (case side4 => exact (Kd.R_reads' HO_62.out).2.1); rintro e w' ⟨rfl, ⟨nd, rfl⟩⟩))
                 all_goals (go_meet; (case rel => exact ⟨_, (!t653), zu, H', ⟨by have := HJ13.out; have := HJ112.out; have := HJ209.out; have := HK4.out; have := HJ266.out; first | omega | exact Nat.le_refl _⟩, ⟨by (with_reducible repeat (first | apply Kd.R_alloc | apply Kd.R_drewN | apply Kd.R_drew)); exact Kd.R_mono HO_68.out (fun _ hk => trivial)⟩, ⟨zy HB⟩⟩))
               ·replace c273 := Bool.eq_false_iff.mpr c273
                subst c273; rw [if_neg (show ¬ (false = true) by decide)] at H
                exact absurd (HR_.out.symm.trans (laws_FnShadowsDark.j13_true _ _ _ _ _ H)) (by decide)
              case rest =>
               (try clear hz581); (try clear hz593); (try clear hz599); (try clear hz609); (try clear hz610)
               clear HC271
               obtain ⟨kq, x542_270, rfl, HA, HJ270, HO_68, HB⟩ := hcut
               cases kq with
               | zero => exact absurd HA.out (by simp [laws_FnShadowsDark.j13])
               | succ kj270 =>
                have H := HA.out; clear HA; simp only [laws_FnShadowsDark.j13] at H
                by_cases c276 : x542_270 = true
                ·subst c276
                 rw [if_pos rfl] at H
                 obtain rfl := Option.some.inj H
                 exact absurd HR_.out (by decide)
                ·replace c276 := Bool.eq_false_iff.mpr c276
                 subst c276; rw [if_neg (show ¬ (false = true) by decide)] at H
                 by_cases c277 : t633 = true
                 ·subst c277
                  rw [if_pos rfl] at H; obtain ⟨⟨t654, t655⟩, A278, H⟩ := zB H; (try dsimp only at H)
                  by_cases c279 : t655 = true
                  ·subst c279
                   rw [if_pos rfl] at H
                   obtain rfl := Option.some.inj H
                   obtain ⟨Ao280, co280, eo280⟩ := Kd.R_slice HO_68.out
                   subst eo280
                   as_aux_lemma =>
                    go_wp2_with (first | ((with_reducible refine gate_callee (f := 28) rfl ?_); refine zG (some 546) Tryz.func28 #[.slice Ao280 t632.length co280] ?_; (with_reducible refine (impl_PolesText.calls kj270 _ _ t632 t654 true _ (LaidP.below HL_.out.p (zy HB)) ?side1 ?side2 A278.out).mono ?_); (case side1 => repeat (first | exact (Kd.R_reads' HO_68.out).2.2 | (with_reducible refine Kd.C_alloc ?_ _) | (with_reducible refine Kd.C_drewN ?_ _) | (with_reducible refine Kd.C_drew ?_))); (case side2 => exact (Kd.R_reads' HO_68.out).2.1); rintro e w281 ⟨rfl, hb⟩; refine ⟨_, rfl, ?_⟩; replace HO_68 := zo HO_68 hb; replace HB := zh HB hb; clear hb))
                    go_ret
                    exact ⟨zt, zy HB⟩
                  ·replace c279 := Bool.eq_false_iff.mpr c279
                   subst c279; rw [if_neg (show ¬ (false = true) by decide)] at H
                   obtain rfl := Option.some.inj H
                   exact absurd HR_.out (by decide)
                 ·replace c277 := Bool.eq_false_iff.mpr c277
                  subst c277; rw [if_neg (show ¬ (false = true) by decide)] at H
                  obtain rfl := Option.some.inj H
                  as_aux_lemma =>
                   go_wp2
                   go_ret
                   exact ⟨zt, zy HB⟩
            ·replace c269 := Bool.eq_false_iff.mpr c269
             subst c269; rw [if_neg (show ¬ (false = true) by decide)] at H
             by_cases c282 : t633 = true
             ·subst c282
              rw [if_pos rfl] at H; obtain ⟨⟨t656, t657⟩, A283, H⟩ := zB H; (try dsimp only at H)
              by_cases c284 : t657 = true
              ·subst c284
               rw [if_pos rfl] at H
               obtain rfl := Option.some.inj H
               obtain ⟨Ao285, co285, eo285⟩ := Kd.R_slice HO_68.out
               subst eo285
               as_aux_lemma =>
                go_wp2_with (first | ((with_reducible refine gate_callee (f := 28) rfl ?_); refine zG (some 546) Tryz.func28 #[.slice Ao285 t632.length co285] ?_; (with_reducible refine (impl_PolesText.calls kj266 _ _ t632 t656 true _ (LaidP.below HL_.out.p (zy HB)) ?side1 ?side2 A283.out).mono ?_); (case side1 => repeat (first | exact (Kd.R_reads' HO_68.out).2.2 | (with_reducible refine Kd.C_alloc ?_ _) | (with_reducible refine Kd.C_drewN ?_ _) | (with_reducible refine Kd.C_drew ?_))); (case side2 => exact (Kd.R_reads' HO_68.out).2.1); rintro e w286 ⟨rfl, hb⟩; refine ⟨_, rfl, ?_⟩; replace HO_62 := zo HO_62 hb; replace HO_68 := zo HO_68 hb; replace HB := zh HB hb; clear hb))
                go_ret
                exact ⟨zt, zy HB⟩
              ·replace c284 := Bool.eq_false_iff.mpr c284
               subst c284; rw [if_neg (show ¬ (false = true) by decide)] at H
               obtain rfl := Option.some.inj H
               exact absurd HR_.out (by decide)
             ·replace c282 := Bool.eq_false_iff.mpr c282
              subst c282; rw [if_neg (show ¬ (false = true) by decide)] at H
              obtain rfl := Option.some.inj H
              as_aux_lemma =>
               go_wp2
               go_ret
               exact ⟨zt, zy HB⟩

end Go.Proofs.YtknjpbkkbnmfaaaGreatDoor.P
