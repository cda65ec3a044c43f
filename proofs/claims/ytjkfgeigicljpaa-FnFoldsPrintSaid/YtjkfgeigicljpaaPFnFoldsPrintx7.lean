-- WRITTEN BY A PROGRAM OF THIS SESSION (xprint), out of the translation: not trusted: it is checked as any text
import Derived.Test.YtjkfgeigicljpaaPFnFoldsPrintx5
namespace Go.Proofs.Ytjkfgeigicljpaa.PFnFoldsPrint
open Go.RowKit Go.Proofs.YtjkfgeigicljpaaW.PrintWords Go.Proofs.YtjkfgeigicljpaaW.PrintLast Go.Proofs.YtjkfgeigicljpaaW.PrintMore
attribute [local go_sem] max2_int min2_int max_two min_two max_three min_three max_four min_four   -- for this text's walks alone
set_option linter.unusedVariables false
set_option linter.unusedSimpArgs false

set_option maxHeartbeats 40000000 in
set_option maxRecDepth 1000000 in
theorem laws_FnFoldsPrint.p13 (nx : laws_FnFoldsPrint.P27) : laws_FnFoldsPrint.P13 := by
  unfold laws_FnFoldsPrint.P13
  intro A1 c1 l1 w HR1 HC1 kq wc HA HB u0 u2 u3 u4 u5 u6 u7 u8 u9 u10 u11 u12 u13 u14 u15 u16 u17 u18 u19 u20 u21 u22 u23 u24 u25 u26 u27 u28 u29 u30 u31 u32 u33 u34 u35 u36 u37 u38 u39 u40 u41 u42 u43 u44 u45 u46 u47 u48 u49 u50 u51 u52 u53 u54 u55 u56 u57 u58 u59 u60 u61 u62 u63 u64 u65 u66 u67 u68 u69 u70 u71 u72 u73 u74 u75 u76 u77 u78 u79 u80 u81 u82 u83 u84 u85 u86 u87 u88 u89 u90 u91 u92 u93 u94 u95 u96 u97 u98 u99 u100 u101 u102 u103 u104 u105 u106 u107 u108 u109 u110 u111 u112 u113 u114 u115 u116 u117 u118 u119 u120 u121 u122 u123 u124 u125 u126 u127 u128 u129 u130 u131 u132 u133 u134 u135 u136 u137 u138 u139 u140 u141 u142 u143 u144 u145 u146 u147 u148 u149 u150 u151 u152 u153 u154 u155 u156 u157 u158 u159 u160 u161 u162 u163 u164 u165 u166 u167 u168 u169 u170 u171 u172 u173 u174 u175 u176 u177 u178 u179 u180 u181 u182 u183 u184 u185 u186 u187 u188 u189 u190 u191 u192 u193 u194 u195 u196 u197 u198 u199 u200 u201 u202 u203 u204 u205 u206 u207 u208 u209 u210 u211 u212 u213 u214 u215 u216 u217 u218 u219 u220 u221 u222 u223 u224 u225 u226 u227 u228 u229 u230 u231 u232 u233 u234 u235 u236 u237 u238 u239 u240 u241 u242 u243 u244 u245 u246 u247 u248 u249 u250 u251 u252 u253 u254 u255 u256 u257 u258 u259 u260 u261 u262 u263 u264 u265 u266 u267 u268 u269 u270 u271 u272 u273 u274 u275 u276 u277 u278 u279 u280 u281 u282 u283 u284 u285 u286 u287 u288 u289 u290 u291 u292 u293 u294 u295 u296 u297 u298 u299 u300 u301 u302 u303 u304 u305 u306 u307 u308 u309 u310 u311 u312 u313 u314 u315 u316 u317 u318 u319 u320 u321 u322 u323 u324 u325 u326 u327 u328 u329 u330 u331 u332 u333 u334 u335 u336 u337 u338 u339 u340 u341 u342 u343 u344 u345 u346 u347 u348 u349 u350 u351 u352 u353 u354 u355 u356 u357 u358 u359 u360 u361 u362 u363 u364 u365 u366 u367 u368 u369 u370 u371 u372 u373 u374 u375 u376 u377 u378 u379 u380 u381 u382 u383 u384 u385 u386 u387 u388 u389 u390 u391 u392 u393 u394 u395 u396 u397 u398 u399 u400 u401 u402 u403 u404 u405 u406 u407 u408 u409 u410 u411 u412 u413 u414 u415 u416 u417 u418 u419 u420 u421 u422 u423 u424 u425 u426 u427 u428 u429 u430 u431 u432 u433 u434 u435 u436 u437 u438 u439 u440 u441 u442 u443 u444 u445 u446 u447 u448 u449 u450 u451 u452 u453 u454 u455 u456 u457 u458 u459 u460 u461 u462 u463 u464 u465 u466 u467 u468 u469 u470 u471 u472 u473 u474 u475 u476 u477 u478 u479 u480 u481 u482 u483 u484 u485 u486 u487 u488 u489 u490 u491 u492 u493 u494 u495 u496 u497 u498 u499 u500 u501 u502 u503 u504 u505 u506 u507 u508 u509 u510 u511 u512 u513 u514 u515 u516 u517 u518 u519 u520 u521 u522 u523 u524 u525 u526 u527 u528 u529 u530 u531 u532 u533 u534 u535 u536 u537 u538 u539 u540 u541 u542 u543 u544 u545 u546 u547 u548 u549 u550 u551 u552 u553 u554 u555 u556 u557 u558 u559 u560 u561 u562 u563 u564 u565 u566 u567 u568 u569 u570 u571 u572 u573 u574 u575 u576 u577 u578 u579 u580 u581 u582 u583 u584 u585 u586 u587 u588 u589 u590 u591 u592 u593 u594 u595 u596 u597 u598 u599 u600 u601 u602 u603 u604 u605 u606 u607 Q' K1 a1
  conv at a1 => intro a w; lhs; arg 2; whnf
  cases kq with
  | zero => exact absurd HA.out (by simp [laws_FnFoldsPrint.j6])
  | succ kj91 =>
    have H := HA.out
    clear HA
    simp only [laws_FnFoldsPrint.j6] at H
    replace H := Option.bind_eq_some_iff.mp H
    obtain ⟨⟨t337, t338⟩, A1330, H⟩ := H
    (try dsimp only at H)
    have A133 := Aside0.mk A1330
    clear A1330
    replace H := Option.bind_eq_some_iff.mp H
    obtain ⟨⟨t339, t340, t341, t342⟩, A1340, H⟩ := H
    (try dsimp only at H)
    have A134 := Aside0.mk A1340
    clear A1340
    replace H := Option.bind_eq_some_iff.mp H
    obtain ⟨⟨t343, t344, t345, t346⟩, A1350, H⟩ := H
    (try dsimp only at H)
    have A135 := Aside0.mk A1350
    clear A1350
    replace H := Option.bind_eq_some_iff.mp H
    obtain ⟨⟨t347, t348⟩, A1360, H⟩ := H
    (try dsimp only at H)
    have A136 := Aside0.mk A1360
    clear A1360
    replace H := Option.bind_eq_some_iff.mp H
    obtain ⟨⟨t349, t350⟩, A1370, H⟩ := H
    (try dsimp only at H)
    have A137 := Aside0.mk A1370
    clear A1370
    replace H := Option.bind_eq_some_iff.mp H
    obtain ⟨⟨t351, t352, t353⟩, A1380, H⟩ := H
    (try dsimp only at H)
    have A138 := Aside0.mk A1380
    clear A1380
    replace H := Option.bind_eq_some_iff.mp H
    obtain ⟨⟨t354, t355⟩, A1390, H⟩ := H
    (try dsimp only at H)
    have A139 := Aside0.mk A1390
    clear A1390
    replace H := Option.bind_eq_some_iff.mp H
    obtain ⟨⟨t356, t357⟩, A1400, H⟩ := H
    (try dsimp only at H)
    have A140 := Aside0.mk A1400
    clear A1400
    replace H := Option.bind_eq_some_iff.mp H
    obtain ⟨t358, A1410, H⟩ := H
    (try dsimp only at H)
    have A141 := Aside0.mk A1410
    clear A1410
    replace H := Option.bind_eq_some_iff.mp H
    obtain ⟨⟨t359, t360⟩, A1420, H⟩ := H
    (try dsimp only at H)
    have A142 := Aside0.mk A1420
    clear A1420
    replace H := Option.bind_eq_some_iff.mp H
    obtain ⟨⟨t361, t362⟩, A1430, H⟩ := H
    (try dsimp only at H)
    have A143 := Aside0.mk A1430
    clear A1430
    replace H := Option.bind_eq_some_iff.mp H
    obtain ⟨⟨t363, t364⟩, A1440, H⟩ := H
    (try dsimp only at H)
    have A144 := Aside0.mk A1440
    clear A1440
    replace H := Option.bind_eq_some_iff.mp H
    obtain ⟨⟨t365, t366⟩, A1450, H⟩ := H
    (try dsimp only at H)
    have A145 := Aside0.mk A1450
    clear A1450
    have HC146 := Aside0.mk H
    clear H
    go_upto_region 48 with (first | ((with_reducible refine gate_callee (f := 46) rfl ?_); refine goesL_ (some 400) rfl rfl Try.func46 (by kernel_rfl) rfl #[.slice A1 l1.length c1] rfl (by (try simp only [List.map_toArray, List.map_cons, List.map_nil]); first | done | rfl | (simp only [List.length_drop, List.length_take]; rfl)) ?_; (with_reducible refine (spec_DrawPlaceOfPage.calls _ _ l1 t337 t338 _ ?side1 ?side2 A133.out).mono ?_); (case side1 => repeat (first | exact (Kd.C_below HR1.out HB.out) | (with_reducible refine Kd.C_alloc ?_ _) | (with_reducible refine Kd.C_drewN ?_ _) | (with_reducible refine Kd.C_drew ?_))); (case side2 => exact HC1.out); rintro e w147 ⟨rfl, hb⟩; refine ⟨_, rfl, ?_⟩; have n0_ := Aside0.mk (below_step (by repeat (first | (with_reducible first | exact HB.out | apply below_alloc | apply pw_below_drewN | apply below_drew1) | exact HB.out)) hb); clear HB; have HB := n0_; clear n0_; (try clear hb); (try clear hb2); (try clear hk); (try clear hi)) | ((with_reducible refine gate_callee (f := 43) rfl ?_); refine goesL_ (some 406) rfl rfl Try.func43 (by kernel_rfl) rfl #[.int .i64 t337, .int .i64 t338] rfl (by (try simp only [List.map_toArray, List.map_cons, List.map_nil]); first | done | rfl | (simp only [List.length_drop, List.length_take]; rfl)) ?_; (with_reducible refine (impl_PlaceOfPage.calls t337 t338 t339 t340 t341 t342 _ A134.out).mono ?_); rintro e w' ⟨rfl, ⟨nd, rfl⟩⟩; refine ⟨_, rfl, ?_⟩) | ((with_reducible refine gate_callee (f := 47) rfl ?_); refine goesL_ (some 414) rfl rfl Try.func47 (by kernel_rfl) rfl #[.int .i64 t337, .int .i64 t338] rfl (by (try simp only [List.map_toArray, List.map_cons, List.map_nil]); first | done | rfl | (simp only [List.length_drop, List.length_take]; rfl)) ?_; (with_reducible refine (spec_PlaceOfPage.calls kj91 t337 t338 t343 t344 t345 t346 _ A135.out).mono ?_); rintro e w148 ⟨rfl, hb⟩; refine ⟨_, rfl, ?_⟩; have n0_ := Aside0.mk (below_step (by repeat (first | (with_reducible first | exact HB.out | apply below_alloc | apply pw_below_drewN | apply below_drew1) | exact HB.out)) hb); clear HB; have HB := n0_; clear n0_; (try clear hb); (try clear hb2); (try clear hk); (try clear hi)) | ((with_reducible refine gate_callee (f := 44) rfl ?_); refine goesL_ (some 422) rfl rfl Try.func44 (by kernel_rfl) rfl #[.int .i64 t337, .int .i64 t338] rfl (by (try simp only [List.map_toArray, List.map_cons, List.map_nil]); first | done | rfl | (simp only [List.length_drop, List.length_take]; rfl)) ?_; (with_reducible refine (impl_PartnerPage.calls t337 t338 t347 t348 _ A136.out).mono ?_); rintro e w' ⟨rfl, ⟨nd, rfl⟩⟩; refine ⟨_, rfl, ?_⟩) | ((with_reducible refine gate_callee (f := 48) rfl ?_); refine goesL_ (some 428) rfl rfl Try.func48 (by kernel_rfl) rfl #[.int .i64 t337, .int .i64 t338] rfl (by (try simp only [List.map_toArray, List.map_cons, List.map_nil]); first | done | rfl | (simp only [List.length_drop, List.length_take]; rfl)) ?_; (with_reducible refine (spec_PartnerPage.calls t337 t338 t349 t350 _ A137.out).mono ?_); rintro e w' ⟨rfl, ⟨nd, rfl⟩⟩; refine ⟨_, rfl, ?_⟩) | ((with_reducible refine gate_callee (f := 49) rfl ?_); refine goesL_ (some 433) rfl rfl Try.func49 (by kernel_rfl) rfl #[.slice A1 l1.length c1] rfl (by (try simp only [List.map_toArray, List.map_cons, List.map_nil]); first | done | rfl | (simp only [List.length_drop, List.length_take]; rfl)) ?_; (with_reducible refine (spec_DrawSheetOfPartners.calls _ _ l1 t351 t352 t353 _ ?side1 ?side2 A138.out).mono ?_); (case side1 => repeat (first | exact (Kd.C_below HR1.out (by repeat (first | (with_reducible first | exact HB.out | apply below_alloc | apply pw_below_drewN | apply below_drew1) | exact HB.out))) | (with_reducible refine Kd.C_alloc ?_ _) | (with_reducible refine Kd.C_drewN ?_ _) | (with_reducible refine Kd.C_drew ?_))); (case side2 => exact HC1.out); rintro e w149 ⟨rfl, hb⟩; refine ⟨_, rfl, ?_⟩; have n0_ := Aside0.mk (below_step (by repeat (first | (with_reducible first | exact HB.out | apply below_alloc | apply pw_below_drewN | apply below_drew1) | exact HB.out)) hb); clear HB; have HB := n0_; clear n0_; (try clear hb); (try clear hb2); (try clear hk); (try clear hi)) | ((with_reducible refine gate_callee (f := 45) rfl ?_); refine goesL_ (some 441) rfl rfl Try.func45 (by kernel_rfl) rfl #[.int .i64 t351, .int .i64 t352, .int .i64 t353] rfl (by (try simp only [List.map_toArray, List.map_cons, List.map_nil]); first | done | rfl | (simp only [List.length_drop, List.length_take]; rfl)) ?_; (with_reducible refine (impl_SheetOfPartners.calls t351 t352 t353 t354 t355 _ A139.out).mono ?_); rintro e w150 ⟨rfl, hb⟩; refine ⟨_, rfl, ?_⟩; have n0_ := Aside0.mk (below_step (by repeat (first | (with_reducible first | exact HB.out | apply below_alloc | apply pw_below_drewN | apply below_drew1) | exact HB.out)) hb); clear HB; have HB := n0_; clear n0_; (try clear hb); (try clear hb2); (try clear hk); (try clear hi)) | ((with_reducible refine gate_callee (f := 50) rfl ?_); refine goesL_ (some 448) rfl rfl Try.func50 (by kernel_rfl) rfl #[.int .i64 t351, .int .i64 t352, .int .i64 t353] rfl (by (try simp only [List.map_toArray, List.map_cons, List.map_nil]); first | done | rfl | (simp only [List.length_drop, List.length_take]; rfl)) ?_; (with_reducible refine (spec_SheetOfPartners.calls kj91 t351 t352 t353 t356 t357 _ A140.out).mono ?_); rintro e w151 ⟨rfl, hb⟩; refine ⟨_, rfl, ?_⟩; have n0_ := Aside0.mk (below_step (by repeat (first | (with_reducible first | exact HB.out | apply below_alloc | apply pw_below_drewN | apply below_drew1) | exact HB.out)) hb); clear HB; have HB := n0_; clear n0_; (try clear hb); (try clear hb2); (try clear hk); (try clear hi)) | ((with_reducible refine gate_callee (f := 51) rfl ?_); refine goesL_ (some 452) rfl rfl Try.func51 (by kernel_rfl) rfl #[.slice A1 l1.length c1] rfl (by (try simp only [List.map_toArray, List.map_cons, List.map_nil]); first | done | rfl | (simp only [List.length_drop, List.length_take]; rfl)) ?_; (with_reducible refine (spec_DrawSheetsFor.calls _ _ l1 t358 _ ?side1 ?side2 A141.out).mono ?_); (case side1 => repeat (first | exact (Kd.C_below HR1.out HB.out) | (with_reducible refine Kd.C_alloc ?_ _) | (with_reducible refine Kd.C_drewN ?_ _) | (with_reducible refine Kd.C_drew ?_))); (case side2 => exact HC1.out); rintro e w152 ⟨rfl, hb⟩; refine ⟨_, rfl, ?_⟩; have n0_ := Aside0.mk (below_step (by repeat (first | (with_reducible first | exact HB.out | apply below_alloc | apply pw_below_drewN | apply below_drew1) | exact HB.out)) hb); clear HB; have HB := n0_; clear n0_; (try clear hb); (try clear hb2); (try clear hk); (try clear hi)) | ((with_reducible refine gate_callee (f := 52) rfl ?_); refine goesL_ (some 455) rfl rfl Try.func52 (by kernel_rfl) rfl #[.int .i64 t358] rfl (by (try simp only [List.map_toArray, List.map_cons, List.map_nil]); first | done | rfl | (simp only [List.length_drop, List.length_take]; rfl)) ?_; (with_reducible refine (impl_SheetsFor.calls t358 t359 t360 _ A142.out).mono ?_); rintro e w' ⟨rfl, ⟨nd, rfl⟩⟩; refine ⟨_, rfl, ?_⟩) | ((with_reducible refine gate_callee (f := 53) rfl ?_); refine goesL_ (some 460) rfl rfl Try.func53 (by kernel_rfl) rfl #[.int .i64 t358] rfl (by (try simp only [List.map_toArray, List.map_cons, List.map_nil]); first | done | rfl | (simp only [List.length_drop, List.length_take]; rfl)) ?_; (with_reducible refine (spec_SheetsFor.calls t358 t361 t362 _ A143.out).mono ?_); rintro e w' ⟨rfl, ⟨nd, rfl⟩⟩; refine ⟨_, rfl, ?_⟩) | ((with_reducible refine gate_callee (f := 54) rfl ?_); refine goesL_ (some 465) rfl rfl Try.func54 (by kernel_rfl) rfl #[.int .i64 t358] rfl (by (try simp only [List.map_toArray, List.map_cons, List.map_nil]); first | done | rfl | (simp only [List.length_drop, List.length_take]; rfl)) ?_; (with_reducible refine (impl_BlankPages.calls t358 t363 t364 _ A144.out).mono ?_); rintro e w' ⟨rfl, ⟨nd, rfl⟩⟩; refine ⟨_, rfl, ?_⟩) | ((with_reducible refine gate_callee (f := 55) rfl ?_); refine goesL_ (some 470) rfl rfl Try.func55 (by kernel_rfl) rfl #[.int .i64 t358] rfl (by (try simp only [List.map_toArray, List.map_cons, List.map_nil]); first | done | rfl | (simp only [List.length_drop, List.length_take]; rfl)) ?_; (with_reducible refine (spec_BlankPages.calls t358 t365 t366 _ A145.out).mono ?_); rintro e w' ⟨rfl, ⟨nd, rfl⟩⟩; refine ⟨_, rfl, ?_⟩))
    (try simp only [Act.put, List.setIfInBounds_toArray, List.set_cons_zero, List.set_cons_succ])
    go_cut [540] from 377 to 540 (fun v540 wc => ∃ (kq : Nat) (x540_145 : Bool), v540 = .bool x540_145 ∧ Aside0 (laws_FnFoldsPrint.j7 kq t337 t338 t339 t340 t341 t342 t347 t358 t359 t360 t363 x540_145 = some true) ∧ Aside0 (kq ≤ kj91) ∧ Aside0 (Below w.heap.size w wc))
    case first =>
      have H := HC146.out
      clear HC146
      by_cases c153 : (t342 != t346) = true
      · rw [if_pos c153] at H
        have c153b0 : (t342 != t346) = true := c153
        (try (have c153b1 : decide (t342 = t346) = false := by simpa using c153))
        (try (have c153b2 : (t342 == t346) = false := by simpa using c153))
        (try (have c153b3 : ¬ (t342 = t346) := by simpa using c153))
        clear c153
        (first | rw [c153b0] | (simp only [i64_w, i32_w]; rw [c153b0]) | skip)
        exact absurd H laws_FnFoldsPrint.j7_dead
      · rw [if_neg c153] at H
        have c153b0 : (t342 != t346) = false := by simpa using c153
        (try (have c153b1 : decide (t342 = t346) = true := by simpa using c153))
        (try (have c153b2 : (t342 == t346) = true := by simpa using c153))
        clear c153
        (first | rw [c153b0] | (simp only [i64_w, i32_w]; rw [c153b0]) | skip)
        by_cases c154 : t339 = t343
        · rw [if_pos c154] at H
          have c154b0 : (t339 == t343) = true := beq_iff_eq.mpr c154
          have c154b1 : (t339 != t343) = false := bne_eq_false_iff_eq.mpr c154
          clear c154
          by_cases c155 : (t340 != t344) = true
          · rw [if_pos c155] at H
            have c155b0 : (t340 != t344) = true := c155
            (try (have c155b1 : decide (t340 = t344) = false := by simpa using c155))
            (try (have c155b2 : (t340 == t344) = false := by simpa using c155))
            (try (have c155b3 : ¬ (t340 = t344) := by simpa using c155))
            clear c155
            exact absurd H laws_FnFoldsPrint.j7_dead
          · rw [if_neg c155] at H
            have c155b0 : (t340 != t344) = false := by simpa using c155
            (try (have c155b1 : decide (t340 = t344) = true := by simpa using c155))
            (try (have c155b2 : (t340 == t344) = true := by simpa using c155))
            clear c155
            by_cases c156 : (t341 != t345) = true
            · rw [if_pos c156] at H
              have c156b0 : (t341 != t345) = true := c156
              (try (have c156b1 : decide (t341 = t345) = false := by simpa using c156))
              (try (have c156b2 : (t341 == t345) = false := by simpa using c156))
              (try (have c156b3 : ¬ (t341 = t345) := by simpa using c156))
              clear c156
              exact absurd H laws_FnFoldsPrint.j7_dead
            · rw [if_neg c156] at H
              have c156b0 : (t341 != t345) = false := by simpa using c156
              (try (have c156b1 : decide (t341 = t345) = true := by simpa using c156))
              (try (have c156b2 : (t341 == t345) = true := by simpa using c156))
              clear c156
              by_cases c157 : (t348 != t350) = true
              · rw [if_pos c157] at H
                have c157b0 : (t348 != t350) = true := c157
                (try (have c157b1 : decide (t348 = t350) = false := by simpa using c157))
                (try (have c157b2 : (t348 == t350) = false := by simpa using c157))
                (try (have c157b3 : ¬ (t348 = t350) := by simpa using c157))
                clear c157
                exact absurd H laws_FnFoldsPrint.j7_dead
              · rw [if_neg c157] at H
                have c157b0 : (t348 != t350) = false := by simpa using c157
                (try (have c157b1 : decide (t348 = t350) = true := by simpa using c157))
                (try (have c157b2 : (t348 == t350) = true := by simpa using c157))
                clear c157
                by_cases c158 : t347 = t349
                · rw [if_pos c158] at H
                  have c158b0 : (t347 == t349) = true := beq_iff_eq.mpr c158
                  have c158b1 : (t347 != t349) = false := bne_eq_false_iff_eq.mpr c158
                  clear c158
                  by_cases c159 : (t355 != t357) = true
                  · rw [if_pos c159] at H
                    have c159b0 : (t355 != t357) = true := c159
                    (try (have c159b1 : decide (t355 = t357) = false := by simpa using c159))
                    (try (have c159b2 : (t355 == t357) = false := by simpa using c159))
                    (try (have c159b3 : ¬ (t355 = t357) := by simpa using c159))
                    clear c159
                    exact absurd H laws_FnFoldsPrint.j7_dead
                  · rw [if_neg c159] at H
                    have c159b0 : (t355 != t357) = false := by simpa using c159
                    (try (have c159b1 : decide (t355 = t357) = true := by simpa using c159))
                    (try (have c159b2 : (t355 == t357) = true := by simpa using c159))
                    clear c159
                    by_cases c160 : t354 = t356
                    · rw [if_pos c160] at H
                      have c160b0 : (t354 == t356) = true := beq_iff_eq.mpr c160
                      have c160b1 : (t354 != t356) = false := bne_eq_false_iff_eq.mpr c160
                      clear c160
                      by_cases c161 : (t360 != t362) = true
                      · rw [if_pos c161] at H
                        have c161b0 : (t360 != t362) = true := c161
                        (try (have c161b1 : decide (t360 = t362) = false := by simpa using c161))
                        (try (have c161b2 : (t360 == t362) = false := by simpa using c161))
                        (try (have c161b3 : ¬ (t360 = t362) := by simpa using c161))
                        clear c161
                        exact absurd H laws_FnFoldsPrint.j7_dead
                      · rw [if_neg c161] at H
                        have c161b0 : (t360 != t362) = false := by simpa using c161
                        (try (have c161b1 : decide (t360 = t362) = true := by simpa using c161))
                        (try (have c161b2 : (t360 == t362) = true := by simpa using c161))
                        clear c161
                        by_cases c162 : t359 = t361
                        · rw [if_pos c162] at H
                          have c162b0 : (t359 == t361) = true := beq_iff_eq.mpr c162
                          have c162b1 : (t359 != t361) = false := bne_eq_false_iff_eq.mpr c162
                          clear c162
                          by_cases c163 : (t364 != t366) = true
                          · rw [if_pos c163] at H
                            have c163b0 : (t364 != t366) = true := c163
                            (try (have c163b1 : decide (t364 = t366) = false := by simpa using c163))
                            (try (have c163b2 : (t364 == t366) = false := by simpa using c163))
                            (try (have c163b3 : ¬ (t364 = t366) := by simpa using c163))
                            clear c163
                            exact absurd H laws_FnFoldsPrint.j7_dead
                          · rw [if_neg c163] at H
                            have c163b0 : (t364 != t366) = false := by simpa using c163
                            (try (have c163b1 : decide (t364 = t366) = true := by simpa using c163))
                            (try (have c163b2 : (t364 == t366) = true := by simpa using c163))
                            clear c163
                            by_cases c164 : t363 = t365
                            · rw [if_pos c164] at H
                              have c164b0 : (t363 == t365) = true := beq_iff_eq.mpr c164
                              have c164b1 : (t363 != t365) = false := bne_eq_false_iff_eq.mpr c164
                              clear c164
                              by_cases c165 : (t348 != t342) = true
                              · rw [if_pos c165] at H
                                have c165b0 : (t348 != t342) = true := c165
                                (try (have c165b1 : decide (t348 = t342) = false := by simpa using c165))
                                (try (have c165b2 : (t348 == t342) = false := by simpa using c165))
                                (try (have c165b3 : ¬ (t348 = t342) := by simpa using c165))
                                clear c165
                                exact absurd H laws_FnFoldsPrint.j7_dead
                              · rw [if_neg c165] at H
                                have c165b0 : (t348 != t342) = false := by simpa using c165
                                (try (have c165b1 : decide (t348 = t342) = true := by simpa using c165))
                                (try (have c165b2 : (t348 == t342) = true := by simpa using c165))
                                clear c165
                                have H' := Aside0.mk H
                                clear H
                                go_wp2
                                go_meet
                                case rel => exact ⟨_, ((t364 != t360)), (by first | rfl | (simp; done) | (simp [*]; done)), H', ⟨by first | omega | exact Nat.le_refl _⟩, ⟨by repeat (first | (with_reducible first | exact HB.out | apply below_alloc | apply pw_below_drewN | apply below_drew1) | exact HB.out)⟩⟩
                            · rw [if_neg c164] at H
                              have c164b0 : (t363 == t365) = false := beq_eq_false_iff_ne.mpr c164
                              have c164b1 : (t363 != t365) = true := bne_iff_ne.mpr c164
                              exact absurd H laws_FnFoldsPrint.j7_dead
                        · rw [if_neg c162] at H
                          have c162b0 : (t359 == t361) = false := beq_eq_false_iff_ne.mpr c162
                          have c162b1 : (t359 != t361) = true := bne_iff_ne.mpr c162
                          exact absurd H laws_FnFoldsPrint.j7_dead
                    · rw [if_neg c160] at H
                      have c160b0 : (t354 == t356) = false := beq_eq_false_iff_ne.mpr c160
                      have c160b1 : (t354 != t356) = true := bne_iff_ne.mpr c160
                      exact absurd H laws_FnFoldsPrint.j7_dead
                · rw [if_neg c158] at H
                  have c158b0 : (t347 == t349) = false := beq_eq_false_iff_ne.mpr c158
                  have c158b1 : (t347 != t349) = true := bne_iff_ne.mpr c158
                  exact absurd H laws_FnFoldsPrint.j7_dead
        · rw [if_neg c154] at H
          have c154b0 : (t339 == t343) = false := beq_eq_false_iff_ne.mpr c154
          have c154b1 : (t339 != t343) = true := bne_iff_ne.mpr c154
          exact absurd H laws_FnFoldsPrint.j7_dead
    case rest =>
      clear HC146
      try clear p2
      try clear p3
      try clear q3
      try clear hx3
      try clear p6
      try clear q9
      try clear c10
      try clear c11
      try clear c12
      try clear c13
      try clear c15
      try clear c16
      try clear c20
      try clear c20b0
      try clear c20b1
      try clear c20b2
      try clear c21
      try clear c21b0
      try clear c21b1
      try clear c22
      try clear c22b0
      try clear c22b1
      try clear c23
      try clear c23b0
      try clear c23b1
      try clear c23b2
      try clear c25
      try clear c26
      try clear c26b0
      try clear c26b1
      try clear c26b2
      try clear c29
      try clear c29b0
      try clear c29b1
      try clear c30
      try clear c30b0
      try clear c30b1
      try clear c31
      try clear c31b0
      try clear c31b1
      try clear c31b2
      try clear p31
      try clear q31
      try clear hx31
      try clear c33
      try clear p33
      try clear q33
      try clear hx33
      try clear c34
      try clear c35
      try clear c36
      try clear c36b0
      try clear c36b1
      try clear c36b2
      try clear c37
      try clear c38
      try clear c39
      try clear c40
      try clear c41
      try clear c41b0
      try clear c41b1
      try clear c41b2
      try clear c43
      try clear c44
      try clear c45
      try clear c46
      try clear c47
      try clear c48
      try clear c49
      try clear c50
      try clear c51
      try clear c52
      try clear c53
      try clear c54
      try clear c55
      try clear p64
      try clear c65
      try clear c67
      try clear c69
      try clear c69b0
      try clear c69b1
      try clear c70
      try clear c70b0
      try clear c70b1
      try clear c74
      try clear c76
      try clear c76b0
      try clear c77
      try clear c77b0
      try clear c78
      try clear c78b0
      try clear c79
      try clear c79b0
      try clear c80
      try clear c80b0
      try clear c81
      try clear c81b0
      try clear c82
      try clear c82b0
      try clear c82b1
      try clear c84
      try clear c85
      try clear c85b0
      try clear c85b1
      try clear c87
      try clear c87b0
      try clear c88
      try clear c88b0
      try clear c89
      try clear c89b0
      try clear c89b1
      try clear q90
      try clear q91
      try clear c93
      try clear c100
      try clear c102
      try clear c102b0
      try clear c102b1
      try clear c103
      try clear c103b0
      try clear c103b1
      try clear c104
      try clear c105
      try clear c105b0
      try clear c105b1
      try clear c106
      try clear c106b0
      try clear c106b1
      try clear c106b2
      try clear c107
      try clear c108
      try clear c109
      try clear c109b0
      try clear c109b1
      try clear c110
      try clear c110b0
      try clear c110b1
      try clear c110b2
      try clear c111
      try clear c112
      try clear c113
      try clear c113b0
      try clear c113b1
      try clear c114
      try clear c115
      try clear c115b0
      try clear c115b1
      try clear c116
      try clear c116b0
      try clear c117
      try clear c117b0
      try clear c118
      try clear c118b0
      try clear c118b1
      try clear c120
      try clear c120b0
      try clear c121
      try clear c121b0
      try clear c124
      try clear c125
      try clear c125b0
      try clear c125b1
      try clear c127
      try clear c129
      try clear c131
      try clear c153
      try clear c153b0
      try clear c153b1
      try clear c153b2
      try clear c154
      try clear c154b0
      try clear c154b1
      try clear c155
      try clear c155b0
      try clear c155b1
      try clear c155b2
      try clear c156
      try clear c156b0
      try clear c156b1
      try clear c156b2
      try clear c157
      try clear c157b0
      try clear c157b1
      try clear c157b2
      try clear c158
      try clear c158b0
      try clear c158b1
      try clear c159
      try clear c159b0
      try clear c159b1
      try clear c159b2
      try clear c160
      try clear c160b0
      try clear c160b1
      try clear c161
      try clear c161b0
      try clear c161b1
      try clear c161b2
      try clear c162
      try clear c162b0
      try clear c162b1
      try clear c163
      try clear c163b0
      try clear c163b1
      try clear c163b2
      try clear c164
      try clear c164b0
      try clear c164b1
      try clear c165
      try clear c165b0
      try clear c165b1
      try clear c165b2
      try clear hx313_0
      try clear hx319_0
      try clear hx332_0
      try clear hx333_0
      try clear p2
      try clear p3
      try clear p31
      try clear p313
      try clear p319
      try clear p33
      try clear p332
      try clear p333
      try clear p6
      try clear p64
      try clear q3
      try clear q31
      try clear q313
      try clear q319
      try clear q33
      try clear q332
      try clear q333
      try clear q9
      try clear q90
      try clear q91
      obtain ⟨kq, x540_145, rfl, HA, HJ145, HB⟩ := hcut
      rename_i K1 a1 K0 a0
      exact nx w t337 t338 t339 t340 t341 t342 t347 t358 t359 t360 t363 kq x540_145 wc HA HB _ _ _ _ _ _ _ _ _ _ _ _ _ _ _ _ _ _ _ _ _ _ _ _ _ _ _ _ _ _ _ _ _ _ _ _ _ _ _ _ _ _ _ _ _ _ _ _ _ _ _ _ _ _ _ _ _ _ _ _ _ _ _ _ _ _ _ _ _ _ _ _ _ _ _ _ _ _ _ _ _ _ _ _ _ _ _ _ _ _ _ _ _ _ _ _ _ _ _ _ _ _ _ _ _ _ _ _ _ _ _ _ _ _ _ _ _ _ _ _ _ _ _ _ _ _ _ _ _ _ _ _ _ _ _ _ _ _ _ _ _ _ _ _ _ _ _ _ _ _ _ _ _ _ _ _ _ _ _ _ _ _ _ _ _ _ _ _ _ _ _ _ _ _ _ _ _ _ _ _ _ _ _ _ _ _ _ _ _ _ _ _ _ _ _ _ _ _ _ _ _ _ _ _ _ _ _ _ _ _ _ _ _ _ _ _ _ _ _ _ _ _ _ _ _ _ _ _ _ _ _ _ _ _ _ _ _ _ _ _ _ _ _ _ _ _ _ _ _ _ _ _ _ _ _ _ _ _ _ _ _ _ _ _ _ _ _ _ _ _ _ _ _ _ _ _ _ _ _ _ _ _ _ _ _ _ _ _ _ _ _ _ _ _ _ _ _ _ _ _ _ _ _ _ _ _ _ _ _ _ _ _ _ _ _ _ _ _ _ _ _ _ _ _ _ _ _ _ _ _ _ _ _ _ _ _ _ _ _ _ _ _ _ _ _ _ _ _ _ _ _ _ _ _ _ _ _ _ _ _ _ _ _ _ _ _ _ _ _ _ _ _ _ _ _ _ _ _ _ _ _ _ _ _ _ _ _ _ _ _ _ _ _ _ _ _ _ _ _ _ _ _ _ _ _ _ _ _ _ _ _ _ _ _ _ _ _ _ _ _ _ _ _ _ _ _ _ _ _ _ _ _ _ _ _ _ _ _ _ _ _ _ _ _ _ _ _ _ _ _ _ _ _ _ _ _ _ _ _ _ _ _ _ _ _ _ _ _ _ _ _ _ _ _ _ _ _ _ _ _ _ _ _ _ _ _ _ _ _ _ _ _ _ _ _ _ _ _ _ _ _ _ _ _ _ _ _ _ _ _ _ _ _ _ _ _ _ _ _ _ _ _ _ _ _ _ _ _ _ _ _ _ _ _ _ _ _ _ _ _ _ _ _ _ _ _ _ _ _ _ _ _ _ _ _ _ _ _ _ _ _ _ _ _ _ _ _ _ _ _ _ _ _ _ _ _ _ _ _ _ _ _ _ _ _ _ _ _ _ _ _ _ _ _ _ _ K1 a1 K0 a0

end Go.Proofs.Ytjkfgeigicljpaa.PFnFoldsPrint
