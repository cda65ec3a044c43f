-- WRITTEN BY A PROGRAM OF THIS SESSION (xprint), out of the translation: not trusted: it is checked as any text
import Derived.Test.YtjkfgeigicljpaaPFnLeavesTornx6
namespace Go.Proofs.Ytjkfgeigicljpaa.PFnLeavesTorn
open Go.RowKit Go.Proofs.YtjkfgeigicljpaaW.PrintWords Go.Proofs.YtjkfgeigicljpaaW.PrintLast Go.Proofs.YtjkfgeigicljpaaW.PrintMore
attribute [local go_sem] max2_int min2_int max_two min_two max_three min_three max_four min_four   -- for this text's walks alone
set_option linter.unusedVariables false
set_option linter.unusedSimpArgs false

set_option maxHeartbeats 40000000 in
set_option maxRecDepth 1000000 in
theorem laws_FnLeavesTorn.p11 (nx : laws_FnLeavesTorn.P35) : laws_FnLeavesTorn.P11 := by
  unfold laws_FnLeavesTorn.P11
  intro A1 c1 l1 w HR1 HC1 kq wc HA HB u0 u2 u3 u4 u5 u6 u7 u8 u9 u10 u11 u12 u13 u14 u15 u16 u17 u18 u19 u20 u21 u22 u23 u24 u25 u26 u27 u28 u29 u30 u31 u32 u33 u34 u35 u36 u37 u38 u39 u40 u41 u42 u43 u44 u45 u46 u47 u48 u49 u50 u51 u52 u53 u54 u55 u56 u57 u58 u59 u60 u61 u62 u63 u64 u65 u66 u67 u68 u69 u70 u71 u72 u73 u74 u75 u76 u77 u78 u79 u80 u81 u82 u83 u84 u85 u86 u87 u88 u89 u90 u91 u92 u93 u94 u95 u96 u97 u98 u99 u100 u101 u102 u103 u104 u105 u106 u107 u108 u109 u110 u111 u112 u113 u114 u115 u116 u117 u118 u119 u120 u121 u122 u123 u124 u125 u126 u127 u128 u129 u130 u131 u132 u133 u134 u135 u136 u137 u138 u139 u140 u141 u142 u143 u144 u145 u146 u147 u148 u149 u150 u151 u152 u153 u154 u155 u156 u157 u158 u159 u160 u161 u162 u163 u164 u165 u166 u167 u168 u169 u170 u171 u172 u173 u174 u175 u176 u177 u178 u179 u180 u181 u182 u183 u184 u185 u186 u187 u188 u189 u190 u191 u192 u193 u194 u195 u196 u197 u198 u199 u200 u201 u202 u203 u204 u205 u206 u207 u208 u209 u210 u211 u212 u213 u214 u215 u216 u217 u218 u219 u220 u221 u222 u223 u224 u225 u226 u227 u228 u229 u230 u231 u232 u233 u234 u235 u236 u237 u238 u239 u240 u241 u242 u243 u244 u245 u246 u247 u248 u249 u250 u251 u252 u253 u254 u255 u256 u257 u258 u259 u260 u261 u262 u263 u264 u265 u266 u267 u268 u269 u270 u271 u272 u273 u274 u275 u276 u277 u278 u279 u280 u281 u282 u283 u284 u285 u286 u287 u288 u289 u290 u291 u292 u293 u294 u295 u296 u297 u298 u299 u300 u301 u302 u303 u304 u305 u306 u307 u308 u309 u310 u311 u312 u313 u314 u315 u316 u317 u318 u319 u320 u321 u322 u323 u324 u325 u326 u327 u328 u329 u330 u331 u332 u333 u334 u335 u336 u337 u338 u339 u340 u341 u342 u343 u344 u345 u346 u347 u348 u349 u350 u351 u352 u353 u354 u355 u356 u357 u358 u359 u360 u361 u362 u363 u364 u365 u366 u367 u368 u369 u370 u371 u372 u373 u374 u375 u376 u377 u378 u379 u380 u381 u382 u383 u384 u385 u386 u387 u388 u389 u390 u391 u392 u393 u394 u395 u396 u397 u398 u399 u400 u401 u402 u403 u404 u405 u406 u407 u408 u409 u410 u411 u412 u413 u414 u415 u416 u417 u418 u419 u420 u421 u422 u423 u424 u425 u426 u427 u428 u429 u430 u431 u432 u433 u434 u435 u436 u437 u438 u439 u440 u441 u442 u443 u444 u445 u446 u447 u448 u449 u450 u451 u452 u453 u454 u455 u456 u457 u458 u459 u460 u461 u462 u463 u464 u465 u466 u467 u468 u469 u470 u471 u472 u473 u474 u475 u476 u477 u478 u479 u480 u481 u482 u483 u484 u485 u486 u487 u488 u489 u490 u491 u492 u493 u494 u495 u496 u497 u498 u499 u500 u501 u502 u503 u504 u505 u506 u507 u508 u509 u510 u511 u512 u513 u514 u515 u516 u517 u518 u519 u520 u521 u522 u523 u524 u525 u526 u527 u528 u529 u530 u531 u532 u533 u534 u535 u536 u537 u538 u539 u540 u541 u542 u543 u544 u545 u546 u547 u548 u549 u550 u551 u552 u553 u554 u555 u556 u557 u558 u559 u560 u561 u562 u563 u564 u565 u566 u567 u568 u569 u570 u571 u572 u573 u574 u575 u576 u577 u578 u579 u580 u581 u582 u583 u584 u585 u586 u587 u588 u589 u590 u591 u592 u593 u594 u595 u596 u597 u598 u599 u600 u601 u602 u603 u604 u605 u606 u607 u608 u609 u610 u611 u612 u613 u614 u615 u616 u617 u618 u619 u620 u621 u622 u623 u624 u625 u626 u627 u628 u629 u630 u631 u632 u633 u634 u635 u636 u637 u638 u639 u640 u641 u642 u643 u644 u645 u646 u647 u648 u649 u650 u651 u652 u653 u654 u655 u656 u657 u658 u659 u660 u661 u662 u663 u664 u665 u666 u667 u668 u669 u670 u671 u672 u673 u674 u675 u676 u677 u678 u679 u680 u681 u682 u683 u684 u685 u686 u687 u688 u689 u690 u691 u692 u693 u694 u695 u696 u697 u698 u699 u700 u701 u702 u703 u704 u705 u706 u707 u708 u709 u710 u711 u712 u713 u714 u715 u716 u717 u718 u719 u720 u721 u722 u723 u724 u725 u726 u727 u728 u729 u730 u731 u732 u733 u734 u735 Q' K1 a1
  conv at a1 => intro a w; lhs; arg 2; whnf
  cases kq with
  | zero => exact absurd HA.out (by simp [laws_FnLeavesTorn.j3])
  | succ kj27 =>
    have H := HA.out
    clear HA
    simp only [laws_FnLeavesTorn.j3] at H
    replace H := Option.bind_eq_some_iff.mp H
    obtain ⟨⟨t328, t329⟩, A450, H⟩ := H
    (try dsimp only at H)
    have A45 := Aside0.mk A450
    clear A450
    replace H := Option.bind_eq_some_iff.mp H
    obtain ⟨⟨t330, t331, t332⟩, A460, H⟩ := H
    (try dsimp only at H)
    have A46 := Aside0.mk A460
    clear A460
    replace H := Option.bind_eq_some_iff.mp H
    obtain ⟨⟨t333, t334, t335⟩, A470, H⟩ := H
    (try dsimp only at H)
    have A47 := Aside0.mk A470
    clear A470
    replace H := Option.bind_eq_some_iff.mp H
    obtain ⟨⟨t336, t337⟩, A480, H⟩ := H
    (try dsimp only at H)
    have A48 := Aside0.mk A480
    clear A480
    replace H := Option.bind_eq_some_iff.mp H
    obtain ⟨⟨t338, t339⟩, A490, H⟩ := H
    (try dsimp only at H)
    have A49 := Aside0.mk A490
    clear A490
    replace H := Option.bind_eq_some_iff.mp H
    obtain ⟨t340, A500, H⟩ := H
    (try dsimp only at H)
    have A50 := Aside0.mk A500
    clear A500
    replace H := Option.bind_eq_some_iff.mp H
    obtain ⟨⟨t341, t342, t343⟩, A510, H⟩ := H
    (try dsimp only at H)
    have A51 := Aside0.mk A510
    clear A510
    replace H := Option.bind_eq_some_iff.mp H
    obtain ⟨⟨t344, t345, t346⟩, A520, H⟩ := H
    (try dsimp only at H)
    have A52 := Aside0.mk A520
    clear A520
    replace H := Option.bind_eq_some_iff.mp H
    obtain ⟨⟨t347, t348⟩, A530, H⟩ := H
    (try dsimp only at H)
    have A53 := Aside0.mk A530
    clear A530
    replace H := Option.bind_eq_some_iff.mp H
    obtain ⟨⟨t349, t350⟩, A540, H⟩ := H
    (try dsimp only at H)
    have A54 := Aside0.mk A540
    clear A540
    replace H := Option.bind_eq_some_iff.mp H
    obtain ⟨⟨t351, t352⟩, A550, H⟩ := H
    (try dsimp only at H)
    have A55 := Aside0.mk A550
    clear A550
    replace H := Option.bind_eq_some_iff.mp H
    obtain ⟨t353, A560, H⟩ := H
    (try dsimp only at H)
    have A56 := Aside0.mk A560
    clear A560
    replace H := Option.bind_eq_some_iff.mp H
    obtain ⟨⟨t354, t355, t356⟩, A570, H⟩ := H
    (try dsimp only at H)
    have A57 := Aside0.mk A570
    clear A570
    replace H := Option.bind_eq_some_iff.mp H
    obtain ⟨⟨t357, t358, t359⟩, A580, H⟩ := H
    (try dsimp only at H)
    have A58 := Aside0.mk A580
    clear A580
    replace H := Option.bind_eq_some_iff.mp H
    obtain ⟨⟨t360, t361⟩, A590, H⟩ := H
    (try dsimp only at H)
    have A59 := Aside0.mk A590
    clear A590
    replace H := Option.bind_eq_some_iff.mp H
    obtain ⟨⟨t362, t363⟩, A600, H⟩ := H
    (try dsimp only at H)
    have A60 := Aside0.mk A600
    clear A600
    replace H := Option.bind_eq_some_iff.mp H
    obtain ⟨⟨t364, t365⟩, A610, H⟩ := H
    (try dsimp only at H)
    have A61 := Aside0.mk A610
    clear A610
    replace H := Option.bind_eq_some_iff.mp H
    obtain ⟨⟨t366, t367⟩, A620, H⟩ := H
    (try dsimp only at H)
    have A62 := Aside0.mk A620
    clear A620
    replace H := Option.bind_eq_some_iff.mp H
    obtain ⟨⟨t368, t369⟩, A630, H⟩ := H
    (try dsimp only at H)
    have A63 := Aside0.mk A630
    clear A630
    replace H := Option.bind_eq_some_iff.mp H
    obtain ⟨⟨t370, t371⟩, A640, H⟩ := H
    (try dsimp only at H)
    have A64 := Aside0.mk A640
    clear A640
    replace H := Option.bind_eq_some_iff.mp H
    obtain ⟨⟨t372, t373⟩, A650, H⟩ := H
    (try dsimp only at H)
    have A65 := Aside0.mk A650
    clear A650
    replace H := Option.bind_eq_some_iff.mp H
    obtain ⟨⟨t374, t375⟩, A660, H⟩ := H
    (try dsimp only at H)
    have A66 := Aside0.mk A660
    clear A660
    replace H := Option.bind_eq_some_iff.mp H
    obtain ⟨⟨t376, t377⟩, A670, H⟩ := H
    (try dsimp only at H)
    have A67 := Aside0.mk A670
    clear A670
    have HC68 := Aside0.mk H
    clear H
    go_upto_region 46 with (first | ((with_reducible refine gate_callee (f := 66) rfl ?_); refine goesL_ (some 270) rfl rfl Try.func66 (by kernel_rfl) rfl #[.slice A1 l1.length c1] rfl (by (try simp only [List.map_toArray, List.map_cons, List.map_nil]); first | done | rfl | (simp only [List.length_drop, List.length_take]; rfl)) ?_; (with_reducible refine (spec_DrawFirstTornTwo.calls kj27 _ _ l1 t328 t329 _ ?side1 ?side2 A45.out).mono ?_); (case side1 => repeat (first | exact (Kd.C_below HR1.out HB.out) | (with_reducible refine Kd.C_alloc ?_ _) | (with_reducible refine Kd.C_drewN ?_ _) | (with_reducible refine Kd.C_drew ?_))); (case side2 => exact HC1.out); rintro e w69 ⟨rfl, hb⟩; refine ⟨_, rfl, ?_⟩; have n0_ := Aside0.mk (below_step (by repeat (first | (with_reducible first | exact HB.out | apply below_alloc | apply pw_below_drewN | apply below_drew1) | exact HB.out)) hb); clear HB; have HB := n0_; clear n0_; (try clear hb); (try clear hb2); (try clear hk); (try clear hi)) | ((with_reducible refine gate_callee (f := 67) rfl ?_); refine goesL_ (some 276) rfl rfl Try.func67 (by kernel_rfl) rfl #[.int .i64 t328, .int .i64 t329] rfl (by (try simp only [List.map_toArray, List.map_cons, List.map_nil]); first | done | rfl | (simp only [List.length_drop, List.length_take]; rfl)) ?_; (with_reducible refine (impl_FirstTornTwo.calls kj27 t328 t329 t330 t331 t332 _ A46.out).mono ?_); rintro e w' ⟨rfl, ⟨nd, rfl⟩⟩; refine ⟨_, rfl, ?_⟩) | ((with_reducible refine gate_callee (f := 68) rfl ?_); refine goesL_ (some 283) rfl rfl Try.func68 (by kernel_rfl) rfl #[.int .i64 t328, .int .i64 t329] rfl (by (try simp only [List.map_toArray, List.map_cons, List.map_nil]); first | done | rfl | (simp only [List.length_drop, List.length_take]; rfl)) ?_; (with_reducible refine (spec_FirstTornTwo.calls kj27 t328 t329 t333 t334 t335 _ A47.out).mono ?_); rintro e w' ⟨rfl, ⟨nd, rfl⟩⟩; refine ⟨_, rfl, ?_⟩) | ((with_reducible refine gate_callee (f := 69) rfl ?_); refine goesL_ (some 290) rfl rfl Try.func69 (by kernel_rfl) rfl #[.int .i64 t328, .int .i64 t329] rfl (by (try simp only [List.map_toArray, List.map_cons, List.map_nil]); first | done | rfl | (simp only [List.length_drop, List.length_take]; rfl)) ?_; (with_reducible refine (impl_CountTornTwo.calls kj27 t328 t329 t336 t337 _ A48.out).mono ?_); rintro e w' ⟨rfl, ⟨nd, rfl⟩⟩; refine ⟨_, rfl, ?_⟩) | ((with_reducible refine gate_callee (f := 70) rfl ?_); refine goesL_ (some 296) rfl rfl Try.func70 (by kernel_rfl) rfl #[.int .i64 t328, .int .i64 t329] rfl (by (try simp only [List.map_toArray, List.map_cons, List.map_nil]); first | done | rfl | (simp only [List.length_drop, List.length_take]; rfl)) ?_; (with_reducible refine (spec_CountTornTwo.calls kj27 t328 t329 t338 t339 _ A49.out).mono ?_); rintro e w' ⟨rfl, ⟨nd, rfl⟩⟩; refine ⟨_, rfl, ?_⟩) | ((with_reducible refine gate_callee (f := 71) rfl ?_); refine goesL_ (some 300) rfl rfl Try.func71 (by kernel_rfl) rfl #[.slice A1 l1.length c1] rfl (by (try simp only [List.map_toArray, List.map_cons, List.map_nil]); first | done | rfl | (simp only [List.length_drop, List.length_take]; rfl)) ?_; (with_reducible refine (spec_DrawTornFromSum.calls kj27 _ _ l1 t340 _ ?side1 ?side2 A50.out).mono ?_); (case side1 => repeat (first | exact (Kd.C_below HR1.out (by repeat (first | (with_reducible first | exact HB.out | apply below_alloc | apply pw_below_drewN | apply below_drew1) | exact HB.out))) | (with_reducible refine Kd.C_alloc ?_ _) | (with_reducible refine Kd.C_drewN ?_ _) | (with_reducible refine Kd.C_drew ?_))); (case side2 => exact HC1.out); rintro e w70 ⟨rfl, hb⟩; refine ⟨_, rfl, ?_⟩; have n0_ := Aside0.mk (below_step (by repeat (first | (with_reducible first | exact HB.out | apply below_alloc | apply pw_below_drewN | apply below_drew1) | exact HB.out)) hb); clear HB; have HB := n0_; clear n0_; (try clear hb); (try clear hb2); (try clear hk); (try clear hi)) | ((with_reducible refine gate_callee (f := 65) rfl ?_); refine goesL_ (some 303) rfl rfl Try.func65 (by kernel_rfl) rfl #[.int .i64 t340] rfl (by (try simp only [List.map_toArray, List.map_cons, List.map_nil]); first | done | rfl | (simp only [List.length_drop, List.length_take]; rfl)) ?_; (with_reducible refine (impl_TornFromSum.calls kj27 t340 t341 t342 t343 _ A51.out).mono ?_); rintro e w' ⟨rfl, ⟨nd, rfl⟩⟩; refine ⟨_, rfl, ?_⟩) | ((with_reducible refine gate_callee (f := 72) rfl ?_); refine goesL_ (some 309) rfl rfl Try.func72 (by kernel_rfl) rfl #[.int .i64 t340] rfl (by (try simp only [List.map_toArray, List.map_cons, List.map_nil]); first | done | rfl | (simp only [List.length_drop, List.length_take]; rfl)) ?_; (with_reducible refine (spec_TornFromSum.calls kj27 t340 t344 t345 t346 _ A52.out).mono ?_); rintro e w' ⟨rfl, ⟨nd, rfl⟩⟩; refine ⟨_, rfl, ?_⟩) | ((with_reducible refine gate_callee (f := 73) rfl ?_); refine goesL_ (some 315) rfl rfl Try.func73 (by kernel_rfl) rfl #[.slice A1 l1.length c1] rfl (by (try simp only [List.map_toArray, List.map_cons, List.map_nil]); first | done | rfl | (simp only [List.length_drop, List.length_take]; rfl)) ?_; (with_reducible refine (spec_DrawCanBeTorn.calls _ _ l1 t347 t348 _ ?side1 ?side2 A53.out).mono ?_); (case side1 => repeat (first | exact (Kd.C_below HR1.out (by repeat (first | (with_reducible first | exact HB.out | apply below_alloc | apply pw_below_drewN | apply below_drew1) | exact HB.out))) | (with_reducible refine Kd.C_alloc ?_ _) | (with_reducible refine Kd.C_drewN ?_ _) | (with_reducible refine Kd.C_drew ?_))); (case side2 => exact HC1.out); rintro e w71 ⟨rfl, hb⟩; refine ⟨_, rfl, ?_⟩; have n0_ := Aside0.mk (below_step (by repeat (first | (with_reducible first | exact HB.out | apply below_alloc | apply pw_below_drewN | apply below_drew1) | exact HB.out)) hb); clear HB; have HB := n0_; clear n0_; (try clear hb); (try clear hb2); (try clear hk); (try clear hi)) | ((with_reducible refine gate_callee (f := 64) rfl ?_); refine goesL_ (some 321) rfl rfl Try.func64 (by kernel_rfl) rfl #[.int .i64 t347, .int .i64 t348] rfl (by (try simp only [List.map_toArray, List.map_cons, List.map_nil]); first | done | rfl | (simp only [List.length_drop, List.length_take]; rfl)) ?_; (with_reducible refine (impl_CanBeTorn.calls kj27 t347 t348 t349 t350 _ A54.out).mono ?_); rintro e w' ⟨rfl, ⟨nd, rfl⟩⟩; refine ⟨_, rfl, ?_⟩) | ((with_reducible refine gate_callee (f := 74) rfl ?_); refine goesL_ (some 327) rfl rfl Try.func74 (by kernel_rfl) rfl #[.int .i64 t347, .int .i64 t348] rfl (by (try simp only [List.map_toArray, List.map_cons, List.map_nil]); first | done | rfl | (simp only [List.length_drop, List.length_take]; rfl)) ?_; (with_reducible refine (spec_CanBeTorn.calls kj27 t347 t348 t351 t352 _ A55.out).mono ?_); rintro e w' ⟨rfl, ⟨nd, rfl⟩⟩; refine ⟨_, rfl, ?_⟩) | ((with_reducible refine gate_callee (f := 75) rfl ?_); refine goesL_ (some 331) rfl rfl Try.func75 (by kernel_rfl) rfl #[.slice A1 l1.length c1] rfl (by (try simp only [List.map_toArray, List.map_cons, List.map_nil]); first | done | rfl | (simp only [List.length_drop, List.length_take]; rfl)) ?_; (with_reducible refine (spec_DrawPagesOfLeaf.calls _ _ l1 t353 _ ?side1 ?side2 A56.out).mono ?_); (case side1 => repeat (first | exact (Kd.C_below HR1.out (by repeat (first | (with_reducible first | exact HB.out | apply below_alloc | apply pw_below_drewN | apply below_drew1) | exact HB.out))) | (with_reducible refine Kd.C_alloc ?_ _) | (with_reducible refine Kd.C_drewN ?_ _) | (with_reducible refine Kd.C_drew ?_))); (case side2 => exact HC1.out); rintro e w72 ⟨rfl, hb⟩; refine ⟨_, rfl, ?_⟩; have n0_ := Aside0.mk (below_step (by repeat (first | (with_reducible first | exact HB.out | apply below_alloc | apply pw_below_drewN | apply below_drew1) | exact HB.out)) hb); clear HB; have HB := n0_; clear n0_; (try clear hb); (try clear hb2); (try clear hk); (try clear hi)) | ((with_reducible refine gate_callee (f := 76) rfl ?_); refine goesL_ (some 334) rfl rfl Try.func76 (by kernel_rfl) rfl #[.int .i64 t353] rfl (by (try simp only [List.map_toArray, List.map_cons, List.map_nil]); first | done | rfl | (simp only [List.length_drop, List.length_take]; rfl)) ?_; (with_reducible refine (impl_PagesOfLeaf.calls t353 t354 t355 t356 _ A57.out).mono ?_); rintro e w' ⟨rfl, ⟨nd, rfl⟩⟩; refine ⟨_, rfl, ?_⟩) | ((with_reducible refine gate_callee (f := 77) rfl ?_); refine goesL_ (some 340) rfl rfl Try.func77 (by kernel_rfl) rfl #[.int .i64 t353] rfl (by (try simp only [List.map_toArray, List.map_cons, List.map_nil]); first | done | rfl | (simp only [List.length_drop, List.length_take]; rfl)) ?_; (with_reducible refine (spec_PagesOfLeaf.calls t353 t357 t358 t359 _ A58.out).mono ?_); rintro e w' ⟨rfl, ⟨nd, rfl⟩⟩; refine ⟨_, rfl, ?_⟩) | ((with_reducible refine gate_callee (f := 63) rfl ?_); refine goesL_ (some 346) rfl rfl Try.func63 (by kernel_rfl) rfl #[.int .i64 t353] rfl (by (try simp only [List.map_toArray, List.map_cons, List.map_nil]); first | done | rfl | (simp only [List.length_drop, List.length_take]; rfl)) ?_; (with_reducible refine (impl_SumOfLeaf.calls t353 t360 t361 _ A59.out).mono ?_); rintro e w' ⟨rfl, ⟨nd, rfl⟩⟩; refine ⟨_, rfl, ?_⟩) | ((with_reducible refine gate_callee (f := 78) rfl ?_); refine goesL_ (some 351) rfl rfl Try.func78 (by kernel_rfl) rfl #[.int .i64 t353] rfl (by (try simp only [List.map_toArray, List.map_cons, List.map_nil]); first | done | rfl | (simp only [List.length_drop, List.length_take]; rfl)) ?_; (with_reducible refine (spec_SumOfLeaf.calls t353 t362 t363 _ A60.out).mono ?_); rintro e w' ⟨rfl, ⟨nd, rfl⟩⟩; refine ⟨_, rfl, ?_⟩) | ((with_reducible refine gate_callee (f := 79) rfl ?_); refine goesL_ (some 356) rfl rfl Try.func79 (by kernel_rfl) rfl #[.slice A1 l1.length c1] rfl (by (try simp only [List.map_toArray, List.map_cons, List.map_nil]); first | done | rfl | (simp only [List.length_drop, List.length_take]; rfl)) ?_; (with_reducible refine (spec_DrawFacingPage.calls _ _ l1 t364 t365 _ ?side1 ?side2 A61.out).mono ?_); (case side1 => repeat (first | exact (Kd.C_below HR1.out (by repeat (first | (with_reducible first | exact HB.out | apply below_alloc | apply pw_below_drewN | apply below_drew1) | exact HB.out))) | (with_reducible refine Kd.C_alloc ?_ _) | (with_reducible refine Kd.C_drewN ?_ _) | (with_reducible refine Kd.C_drew ?_))); (case side2 => exact HC1.out); rintro e w73 ⟨rfl, hb⟩; refine ⟨_, rfl, ?_⟩; have n0_ := Aside0.mk (below_step (by repeat (first | (with_reducible first | exact HB.out | apply below_alloc | apply pw_below_drewN | apply below_drew1) | exact HB.out)) hb); clear HB; have HB := n0_; clear n0_; (try clear hb); (try clear hb2); (try clear hk); (try clear hi)) | ((with_reducible refine gate_callee (f := 80) rfl ?_); refine goesL_ (some 362) rfl rfl Try.func80 (by kernel_rfl) rfl #[.int .i64 t364, .int .i64 t365] rfl (by (try simp only [List.map_toArray, List.map_cons, List.map_nil]); first | done | rfl | (simp only [List.length_drop, List.length_take]; rfl)) ?_; (with_reducible refine (impl_FacingPage.calls t364 t365 t366 t367 _ A62.out).mono ?_); rintro e w' ⟨rfl, ⟨nd, rfl⟩⟩; refine ⟨_, rfl, ?_⟩) | ((with_reducible refine gate_callee (f := 81) rfl ?_); refine goesL_ (some 368) rfl rfl Try.func81 (by kernel_rfl) rfl #[.int .i64 t364, .int .i64 t365] rfl (by (try simp only [List.map_toArray, List.map_cons, List.map_nil]); first | done | rfl | (simp only [List.length_drop, List.length_take]; rfl)) ?_; (with_reducible refine (spec_FacingPage.calls kj27 t364 t365 t368 t369 _ A63.out).mono ?_); rintro e w' ⟨rfl, ⟨nd, rfl⟩⟩; refine ⟨_, rfl, ?_⟩) | ((with_reducible refine gate_callee (f := 82) rfl ?_); refine goesL_ (some 373) rfl rfl Try.func82 (by kernel_rfl) rfl #[.int .i64 t365] rfl (by (try simp only [List.map_toArray, List.map_cons, List.map_nil]); first | done | rfl | (simp only [List.length_drop, List.length_take]; rfl)) ?_; (with_reducible refine (impl_BackOfPage.calls t365 t370 t371 _ A64.out).mono ?_); rintro e w' ⟨rfl, ⟨nd, rfl⟩⟩; refine ⟨_, rfl, ?_⟩) | ((with_reducible refine gate_callee (f := 83) rfl ?_); refine goesL_ (some 378) rfl rfl Try.func83 (by kernel_rfl) rfl #[.int .i64 t365] rfl (by (try simp only [List.map_toArray, List.map_cons, List.map_nil]); first | done | rfl | (simp only [List.length_drop, List.length_take]; rfl)) ?_; (with_reducible refine (spec_BackOfPage.calls t365 t372 t373 _ A65.out).mono ?_); rintro e w' ⟨rfl, ⟨nd, rfl⟩⟩; refine ⟨_, rfl, ?_⟩) | ((with_reducible refine gate_callee (f := 84) rfl ?_); refine goesL_ (some 384) rfl rfl Try.func84 (by kernel_rfl) rfl #[.int .i64 t364, .int .i64 t365] rfl (by (try simp only [List.map_toArray, List.map_cons, List.map_nil]); first | done | rfl | (simp only [List.length_drop, List.length_take]; rfl)) ?_; (with_reducible refine (impl_IsPage.calls t364 t365 t374 t375 _ A66.out).mono ?_); rintro e w' ⟨rfl, ⟨nd, rfl⟩⟩; refine ⟨_, rfl, ?_⟩) | ((with_reducible refine gate_callee (f := 85) rfl ?_); refine goesL_ (some 390) rfl rfl Try.func85 (by kernel_rfl) rfl #[.int .i64 t364, .int .i64 t365] rfl (by (try simp only [List.map_toArray, List.map_cons, List.map_nil]); first | done | rfl | (simp only [List.length_drop, List.length_take]; rfl)) ?_; (with_reducible refine (spec_IsPage.calls t364 t365 t376 t377 _ A67.out).mono ?_); rintro e w' ⟨rfl, ⟨nd, rfl⟩⟩; refine ⟨_, rfl, ?_⟩))
    (try simp only [Act.put, List.setIfInBounds_toArray, List.set_cons_zero, List.set_cons_succ])
    go_cut [509] from 243 to 509 (fun v509 wc => ∃ (kq : Nat) (x509_67 : Bool), v509 = .bool x509_67 ∧ Aside0 (laws_FnLeavesTorn.j4 kq t328 t329 t330 t331 t332 t336 t340 t341 t342 t343 t353 t354 t355 t356 t360 t364 t365 t366 t367 t370 t371 t374 t375 x509_67 = some true) ∧ Aside0 (kq ≤ kj27) ∧ Aside0 (Below w.heap.size w wc))
    case first =>
      try clear A3; try clear A5; try clear A6; try clear A7; try clear A8; try clear A9; try clear A10; try clear A11; try clear A30; try clear A31; try clear A40; try clear A45; try clear A46; try clear A47; try clear A48; try clear A49; try clear A50; try clear A51; try clear A52; try clear A53; try clear A54; try clear A55; try clear A56; try clear A57; try clear A58; try clear A59; try clear A60; try clear A61; try clear A62; try clear A63; try clear A64; try clear A65; try clear A66; try clear A67
      (try simp only [List.append_eq, List.cons_append, List.nil_append])
      have H := HC68.out
      clear HC68
      by_cases c74 : (t332 != t335) = true
      · rw [if_pos c74] at H
        have c74b0 : (t332 != t335) = true := c74
        (try (have c74b1 : decide (t332 = t335) = false := by simpa using c74))
        (try (have c74b2 : (t332 == t335) = false := by simpa using c74))
        (try (have c74b3 : ¬ (t332 = t335) := by simpa using c74))
        clear c74
        (first | rw [c74b0] | (simp only [i64_w, i32_w]; rw [c74b0]) | skip)
        exact absurd H laws_FnLeavesTorn.j4_dead
      · rw [if_neg c74] at H
        have c74b0 : t332 = t335 := by simpa using c74
        clear c74
        subst c74b0
        by_cases c75 : t330 = t333
        · rw [if_pos c75] at H
          subst c75
          by_cases c76 : t331 = t334
          · rw [if_pos c76] at H
            subst c76
            by_cases c77 : (t337 != t339) = true
            · rw [if_pos c77] at H
              have c77b0 : (t337 != t339) = true := c77
              (try (have c77b1 : decide (t337 = t339) = false := by simpa using c77))
              (try (have c77b2 : (t337 == t339) = false := by simpa using c77))
              (try (have c77b3 : ¬ (t337 = t339) := by simpa using c77))
              clear c77
              exact absurd H laws_FnLeavesTorn.j4_dead
            · rw [if_neg c77] at H
              have c77b0 : t337 = t339 := by simpa using c77
              clear c77
              subst c77b0
              by_cases c78 : t336 = t338
              · rw [if_pos c78] at H
                subst c78
                by_cases c79 : (t343 != t346) = true
                · rw [if_pos c79] at H
                  have c79b0 : (t343 != t346) = true := c79
                  (try (have c79b1 : decide (t343 = t346) = false := by simpa using c79))
                  (try (have c79b2 : (t343 == t346) = false := by simpa using c79))
                  (try (have c79b3 : ¬ (t343 = t346) := by simpa using c79))
                  clear c79
                  exact absurd H laws_FnLeavesTorn.j4_dead
                · rw [if_neg c79] at H
                  have c79b0 : t343 = t346 := by simpa using c79
                  clear c79
                  subst c79b0
                  by_cases c80 : t341 = t344
                  · rw [if_pos c80] at H
                    subst c80
                    by_cases c81 : t342 = t345
                    · rw [if_pos c81] at H
                      subst c81
                      by_cases c82 : (t350 != t352) = true
                      · rw [if_pos c82] at H
                        have c82b0 : (t350 != t352) = true := c82
                        (try (have c82b1 : decide (t350 = t352) = false := by simpa using c82))
                        (try (have c82b2 : (t350 == t352) = false := by simpa using c82))
                        (try (have c82b3 : ¬ (t350 = t352) := by simpa using c82))
                        clear c82
                        exact absurd H laws_FnLeavesTorn.j4_dead
                      · rw [if_neg c82] at H
                        have c82b0 : t350 = t352 := by simpa using c82
                        clear c82
                        subst c82b0
                        by_cases c83 : (t349 != t351) = true
                        · rw [if_pos c83] at H
                          have c83b0 : (t349 != t351) = true := c83
                          (try (have c83b1 : decide (t349 = t351) = false := by simpa using c83))
                          (try (have c83b2 : (t349 == t351) = false := by simpa using c83))
                          (try (have c83b3 : ¬ (t349 = t351) := by simpa using c83))
                          clear c83
                          exact absurd H laws_FnLeavesTorn.j4_dead
                        · rw [if_neg c83] at H
                          have c83b0 : t349 = t351 := by simpa using c83
                          clear c83
                          subst c83b0
                          by_cases c84 : (t356 != t359) = true
                          · rw [if_pos c84] at H
                            have c84b0 : (t356 != t359) = true := c84
                            (try (have c84b1 : decide (t356 = t359) = false := by simpa using c84))
                            (try (have c84b2 : (t356 == t359) = false := by simpa using c84))
                            (try (have c84b3 : ¬ (t356 = t359) := by simpa using c84))
                            clear c84
                            exact absurd H laws_FnLeavesTorn.j4_dead
                          · rw [if_neg c84] at H
                            have c84b0 : t356 = t359 := by simpa using c84
                            clear c84
                            subst c84b0
                            by_cases c85 : t354 = t357
                            · rw [if_pos c85] at H
                              subst c85
                              by_cases c86 : t355 = t358
                              · rw [if_pos c86] at H
                                subst c86
                                by_cases c87 : (t361 != t363) = true
                                · rw [if_pos c87] at H
                                  have c87b0 : (t361 != t363) = true := c87
                                  (try (have c87b1 : decide (t361 = t363) = false := by simpa using c87))
                                  (try (have c87b2 : (t361 == t363) = false := by simpa using c87))
                                  (try (have c87b3 : ¬ (t361 = t363) := by simpa using c87))
                                  clear c87
                                  exact absurd H laws_FnLeavesTorn.j4_dead
                                · rw [if_neg c87] at H
                                  have c87b0 : t361 = t363 := by simpa using c87
                                  clear c87
                                  subst c87b0
                                  by_cases c88 : t360 = t362
                                  · rw [if_pos c88] at H
                                    subst c88
                                    by_cases c89 : (t367 != t369) = true
                                    · rw [if_pos c89] at H
                                      have c89b0 : (t367 != t369) = true := c89
                                      (try (have c89b1 : decide (t367 = t369) = false := by simpa using c89))
                                      (try (have c89b2 : (t367 == t369) = false := by simpa using c89))
                                      (try (have c89b3 : ¬ (t367 = t369) := by simpa using c89))
                                      clear c89
                                      exact absurd H laws_FnLeavesTorn.j4_dead
                                    · rw [if_neg c89] at H
                                      have c89b0 : t367 = t369 := by simpa using c89
                                      clear c89
                                      subst c89b0
                                      by_cases c90 : t366 = t368
                                      · rw [if_pos c90] at H
                                        subst c90
                                        by_cases c91 : (t371 != t373) = true
                                        · rw [if_pos c91] at H
                                          have c91b0 : (t371 != t373) = true := c91
                                          (try (have c91b1 : decide (t371 = t373) = false := by simpa using c91))
                                          (try (have c91b2 : (t371 == t373) = false := by simpa using c91))
                                          (try (have c91b3 : ¬ (t371 = t373) := by simpa using c91))
                                          clear c91
                                          exact absurd H laws_FnLeavesTorn.j4_dead
                                        · rw [if_neg c91] at H
                                          have c91b0 : t371 = t373 := by simpa using c91
                                          clear c91
                                          subst c91b0
                                          by_cases c92 : t370 = t372
                                          · rw [if_pos c92] at H
                                            subst c92
                                            by_cases c93 : (t375 != t377) = true
                                            · rw [if_pos c93] at H
                                              have c93b0 : (t375 != t377) = true := c93
                                              (try (have c93b1 : decide (t375 = t377) = false := by simpa using c93))
                                              (try (have c93b2 : (t375 == t377) = false := by simpa using c93))
                                              (try (have c93b3 : ¬ (t375 = t377) := by simpa using c93))
                                              clear c93
                                              exact absurd H laws_FnLeavesTorn.j4_dead
                                            · rw [if_neg c93] at H
                                              have c93b0 : t375 = t377 := by simpa using c93
                                              clear c93
                                              subst c93b0
                                              by_cases c94 : (t374 != t376) = true
                                              · rw [if_pos c94] at H
                                                have c94b0 : (t374 != t376) = true := c94
                                                (try (have c94b1 : decide (t374 = t376) = false := by simpa using c94))
                                                (try (have c94b2 : (t374 == t376) = false := by simpa using c94))
                                                (try (have c94b3 : ¬ (t374 = t376) := by simpa using c94))
                                                clear c94
                                                exact absurd H laws_FnLeavesTorn.j4_dead
                                              · rw [if_neg c94] at H
                                                have c94b0 : t374 = t376 := by simpa using c94
                                                clear c94
                                                subst c94b0
                                                by_cases c95 : t337 = true
                                                · subst c95
                                                  rw [if_pos rfl] at H
                                                  by_cases c96 : (t332 != (decide (t336 > 0))) = true
                                                  · rw [if_pos c96] at H
                                                    have c96b0 : (t332 != (decide (t336 > 0))) = true := c96
                                                    (try (have c96b1 : decide (t332 = (decide (t336 > 0))) = false := by simpa using c96))
                                                    (try (have c96b2 : (t332 == (decide (t336 > 0))) = false := by simpa using c96))
                                                    (try (have c96b3 : ¬ (t332 = (decide (t336 > 0))) := by simpa using c96))
                                                    clear c96
                                                    exact absurd H laws_FnLeavesTorn.j4_dead
                                                  · rw [if_neg c96] at H
                                                    have c96b0 : (t332 != (decide (t336 > 0))) = false := by simpa using c96
                                                    (try (have c96b1 : decide (t332 = (decide (t336 > 0))) = true := by simpa using c96))
                                                    (try (have c96b2 : (t332 == (decide (t336 > 0))) = true := by simpa using c96))
                                                    clear c96
                                                    have H' := Aside0.mk H
                                                    clear H
                                                    go_wp2
                                                    go_meet
                                                    case rel => exact ⟨_, ((t361 != t356)), (by first | rfl | (simp; done) | (simp [*]; done)), H', ⟨by first | omega | exact Nat.le_refl _⟩, ⟨by repeat (first | (with_reducible first | exact HB.out | apply below_alloc | apply pw_below_drewN | apply below_drew1) | exact HB.out)⟩⟩
                                                · replace c95 := Bool.eq_false_iff.mpr c95
                                                  subst c95
                                                  rw [if_neg (show ¬ (false = true) by decide)] at H
                                                  by_cases c97 : (t332 != false) = true
                                                  · rw [if_pos c97] at H
                                                    have c97b0 : (t332 != false) = true := c97
                                                    (try (have c97b1 : decide (t332 = false) = false := by simpa using c97))
                                                    (try (have c97b2 : (t332 == false) = false := by simpa using c97))
                                                    (try (have c97b3 : ¬ (t332 = false) := by simpa using c97))
                                                    clear c97
                                                    exact absurd H laws_FnLeavesTorn.j4_dead
                                                  · rw [if_neg c97] at H
                                                    have c97b0 : (t332 != false) = false := by simpa using c97
                                                    (try (have c97b1 : decide (t332 = false) = true := by simpa using c97))
                                                    (try (have c97b2 : (t332 == false) = true := by simpa using c97))
                                                    clear c97
                                                    have H' := Aside0.mk H
                                                    clear H
                                                    go_wp2
                                                    go_meet
                                                    case rel => exact ⟨_, ((t361 != t356)), (by first | rfl | (simp; done) | (simp [*]; done)), H', ⟨by first | omega | exact Nat.le_refl _⟩, ⟨by repeat (first | (with_reducible first | exact HB.out | apply below_alloc | apply pw_below_drewN | apply below_drew1) | exact HB.out)⟩⟩
                                          · rw [if_neg c92] at H
                                            have c92b0 : (t370 == t372) = false := beq_eq_false_iff_ne.mpr c92
                                            have c92b1 : (t370 != t372) = true := bne_iff_ne.mpr c92
                                            exact absurd H laws_FnLeavesTorn.j4_dead
                                      · rw [if_neg c90] at H
                                        have c90b0 : (t366 == t368) = false := beq_eq_false_iff_ne.mpr c90
                                        have c90b1 : (t366 != t368) = true := bne_iff_ne.mpr c90
                                        exact absurd H laws_FnLeavesTorn.j4_dead
                                  · rw [if_neg c88] at H
                                    have c88b0 : (t360 == t362) = false := beq_eq_false_iff_ne.mpr c88
                                    have c88b1 : (t360 != t362) = true := bne_iff_ne.mpr c88
                                    exact absurd H laws_FnLeavesTorn.j4_dead
                              · rw [if_neg c86] at H
                                have c86b0 : (t355 == t358) = false := beq_eq_false_iff_ne.mpr c86
                                have c86b1 : (t355 != t358) = true := bne_iff_ne.mpr c86
                                exact absurd H laws_FnLeavesTorn.j4_dead
                            · rw [if_neg c85] at H
                              have c85b0 : (t354 == t357) = false := beq_eq_false_iff_ne.mpr c85
                              have c85b1 : (t354 != t357) = true := bne_iff_ne.mpr c85
                              exact absurd H laws_FnLeavesTorn.j4_dead
                    · rw [if_neg c81] at H
                      have c81b0 : (t342 == t345) = false := beq_eq_false_iff_ne.mpr c81
                      have c81b1 : (t342 != t345) = true := bne_iff_ne.mpr c81
                      exact absurd H laws_FnLeavesTorn.j4_dead
                  · rw [if_neg c80] at H
                    have c80b0 : (t341 == t344) = false := beq_eq_false_iff_ne.mpr c80
                    have c80b1 : (t341 != t344) = true := bne_iff_ne.mpr c80
                    exact absurd H laws_FnLeavesTorn.j4_dead
              · rw [if_neg c78] at H
                have c78b0 : (t336 == t338) = false := beq_eq_false_iff_ne.mpr c78
                have c78b1 : (t336 != t338) = true := bne_iff_ne.mpr c78
                exact absurd H laws_FnLeavesTorn.j4_dead
          · rw [if_neg c76] at H
            have c76b0 : (t331 == t334) = false := beq_eq_false_iff_ne.mpr c76
            have c76b1 : (t331 != t334) = true := bne_iff_ne.mpr c76
            exact absurd H laws_FnLeavesTorn.j4_dead
        · rw [if_neg c75] at H
          have c75b0 : (t330 == t333) = false := beq_eq_false_iff_ne.mpr c75
          have c75b1 : (t330 != t333) = true := bne_iff_ne.mpr c75
          exact absurd H laws_FnLeavesTorn.j4_dead
    case rest =>
      clear HC68
      try clear p2
      try clear p6
      try clear c14
      try clear c14b0
      try clear c14b1
      try clear c14b2
      try clear c15
      try clear c15b0
      try clear c15b1
      try clear c16
      try clear c16b0
      try clear c16b1
      try clear c16b2
      try clear c17
      try clear c17b0
      try clear c17b1
      try clear c18
      try clear c18b0
      try clear c18b1
      try clear c18b2
      try clear c19
      try clear c19b0
      try clear c19b1
      try clear c20
      try clear c20b0
      try clear c20b1
      try clear c20b2
      try clear c21
      try clear c22
      try clear c24
      try clear c25
      try clear c25b0
      try clear c25b1
      try clear c26
      try clear c26b0
      try clear c27
      try clear c29
      try clear c33
      try clear c33b0
      try clear c34
      try clear c34b0
      try clear c35
      try clear c36
      try clear c36b0
      try clear c36b1
      try clear c37
      try clear c38
      try clear c39
      try clear c39b0
      try clear c41
      try clear c42
      try clear c42b0
      try clear c43
      try clear c43b0
      try clear c43b1
      try clear c44
      try clear c44b0
      try clear c44b1
      try clear c63
      try clear c64
      try clear c65
      try clear c66
      try clear c67
      try clear c68
      try clear c69
      try clear c70
      try clear c71
      try clear c72
      try clear c73
      try clear c74
      try clear c74b0
      try clear c74b1
      try clear c74b2
      try clear c75
      try clear c75b0
      try clear c75b1
      try clear c76
      try clear c76b0
      try clear c76b1
      try clear c77
      try clear c77b0
      try clear c77b1
      try clear c77b2
      try clear c78
      try clear c78b0
      try clear c78b1
      try clear c79
      try clear c79b0
      try clear c79b1
      try clear c79b2
      try clear c80
      try clear c80b0
      try clear c80b1
      try clear c81
      try clear c81b0
      try clear c81b1
      try clear c82
      try clear c82b0
      try clear c82b1
      try clear c82b2
      try clear c83
      try clear c83b0
      try clear c83b1
      try clear c83b2
      try clear c84
      try clear c84b0
      try clear c84b1
      try clear c84b2
      try clear c85
      try clear c85b0
      try clear c85b1
      try clear c86
      try clear c86b0
      try clear c86b1
      try clear c87
      try clear c87b0
      try clear c87b1
      try clear c87b2
      try clear c88
      try clear c88b0
      try clear c88b1
      try clear c89
      try clear c89b0
      try clear c89b1
      try clear c89b2
      try clear c90
      try clear c90b0
      try clear c90b1
      try clear c91
      try clear c91b0
      try clear c91b1
      try clear c91b2
      try clear c92
      try clear c92b0
      try clear c92b1
      try clear c93
      try clear c93b0
      try clear c93b1
      try clear c93b2
      try clear c94
      try clear c94b0
      try clear c94b1
      try clear c94b2
      try clear c95
      try clear c96
      try clear c96b0
      try clear c96b1
      try clear c96b2
      try clear c97
      try clear c97b0
      try clear c97b1
      try clear c97b2
      try clear p2
      try clear p6
      obtain ⟨kq, x509_67, rfl, HA, HJ67, HB⟩ := hcut
      rename_i K1 a1 K0 a0
      exact nx w t328 t329 t330 t331 t332 t336 t340 t341 t342 t343 t353 t354 t355 t356 t360 t364 t365 t366 t367 t370 t371 t374 t375 kq x509_67 wc HA HB _ _ _ _ _ _ _ _ _ _ _ _ _ _ _ _ _ _ _ _ _ _ _ _ _ _ _ _ _ _ _ _ _ _ _ _ _ _ _ _ _ _ _ _ _ _ _ _ _ _ _ _ _ _ _ _ _ _ _ _ _ _ _ _ _ _ _ _ _ _ _ _ _ _ _ _ _ _ _ _ _ _ _ _ _ _ _ _ _ _ _ _ _ _ _ _ _ _ _ _ _ _ _ _ _ _ _ _ _ _ _ _ _ _ _ _ _ _ _ _ _ _ _ _ _ _ _ _ _ _ _ _ _ _ _ _ _ _ _ _ _ _ _ _ _ _ _ _ _ _ _ _ _ _ _ _ _ _ _ _ _ _ _ _ _ _ _ _ _ _ _ _ _ _ _ _ _ _ _ _ _ _ _ _ _ _ _ _ _ _ _ _ _ _ _ _ _ _ _ _ _ _ _ _ _ _ _ _ _ _ _ _ _ _ _ _ _ _ _ _ _ _ _ _ _ _ _ _ _ _ _ _ _ _ _ _ _ _ _ _ _ _ _ _ _ _ _ _ _ _ _ _ _ _ _ _ _ _ _ _ _ _ _ _ _ _ _ _ _ _ _ _ _ _ _ _ _ _ _ _ _ _ _ _ _ _ _ _ _ _ _ _ _ _ _ _ _ _ _ _ _ _ _ _ _ _ _ _ _ _ _ _ _ _ _ _ _ _ _ _ _ _ _ _ _ _ _ _ _ _ _ _ _ _ _ _ _ _ _ _ _ _ _ _ _ _ _ _ _ _ _ _ _ _ _ _ _ _ _ _ _ _ _ _ _ _ _ _ _ _ _ _ _ _ _ _ _ _ _ _ _ _ _ _ _ _ _ _ _ _ _ _ _ _ _ _ _ _ _ _ _ _ _ _ _ _ _ _ _ _ _ _ _ _ _ _ _ _ _ _ _ _ _ _ _ _ _ _ _ _ _ _ _ _ _ _ _ _ _ _ _ _ _ _ _ _ _ _ _ _ _ _ _ _ _ _ _ _ _ _ _ _ _ _ _ _ _ _ _ _ _ _ _ _ _ _ _ _ _ _ _ _ _ _ _ _ _ _ _ _ _ _ _ _ _ _ _ _ _ _ _ _ _ _ _ _ _ _ _ _ _ _ _ _ _ _ _ _ _ _ _ _ _ _ _ _ _ _ _ _ _ _ _ _ _ _ _ _ _ _ _ _ _ _ _ _ _ _ _ _ _ _ _ _ _ _ _ _ _ _ _ _ _ _ _ _ _ _ _ _ _ _ _ _ _ _ _ _ _ _ _ _ _ _ _ _ _ _ _ _ _ _ _ _ _ _ _ _ _ _ _ _ _ _ _ _ _ _ _ _ _ _ _ _ _ _ _ _ _ _ _ _ _ _ _ _ _ _ _ _ _ _ _ _ _ _ _ _ _ _ _ _ _ _ _ _ _ _ _ _ _ _ _ _ _ _ _ _ _ _ _ _ _ _ _ _ _ _ _ _ _ _ _ _ _ _ _ _ _ _ _ _ _ _ _ _ _ _ _ _ _ _ _ _ _ _ _ _ _ _ _ _ _ _ _ _ _ _ _ _ _ _ K1 a1 K0 a0

end Go.Proofs.Ytjkfgeigicljpaa.PFnLeavesTorn
