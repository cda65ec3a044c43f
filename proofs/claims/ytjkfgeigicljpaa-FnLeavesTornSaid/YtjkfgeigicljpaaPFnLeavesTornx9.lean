-- WRITTEN BY A PROGRAM OF THIS SESSION (xprint), out of the translation: not trusted: it is checked as any text
import Derived.Test.YtjkfgeigicljpaaPFnLeavesTornx6
namespace Go.Proofs.Ytjkfgeigicljpaa.PFnLeavesTorn
open Go.RowKit Go.Proofs.YtjkfgeigicljpaaW.PrintWords Go.Proofs.YtjkfgeigicljpaaW.PrintLast Go.Proofs.YtjkfgeigicljpaaW.PrintMore
attribute [local go_sem] max2_int min2_int max_two min_two max_three min_three max_four min_four   -- for this text's walks alone
set_option linter.unusedVariables false
set_option linter.unusedSimpArgs false

set_option maxHeartbeats 40000000 in
set_option maxRecDepth 1000000 in
theorem laws_FnLeavesTorn.p37 (nx : laws_FnLeavesTorn.P38) : laws_FnLeavesTorn.P37 := by
  unfold laws_FnLeavesTorn.P37
  intro w t353 t354 t355 t356 t360 t364 t365 t366 t367 t370 t371 t374 t375 kq wc HA HB u0 u1 u2 u3 u4 u5 u6 u7 u8 u9 u10 u11 u12 u13 u14 u15 u16 u17 u18 u19 u20 u21 u22 u23 u24 u25 u26 u27 u28 u29 u30 u31 u32 u33 u34 u35 u36 u37 u38 u39 u40 u41 u42 u43 u44 u45 u46 u47 u48 u49 u50 u55 u56 u57 u59 u60 u61 u66 u67 u70 u71 u74 u75 u76 u77 u78 u79 u80 u81 u82 u83 u84 u85 u86 u87 u88 u89 u90 u91 u92 u93 u94 u95 u96 u97 u98 u99 u100 u101 u102 u103 u104 u105 u106 u107 u108 u109 u110 u111 u112 u113 u114 u115 u116 u117 u118 u119 u120 u121 u122 u123 u124 u125 u126 u127 u128 u129 u130 u131 u132 u133 u134 u135 u136 u137 u138 u139 u140 u141 u142 u143 u144 u145 u146 u147 u148 u149 u150 u151 u152 u153 u154 u155 u156 u157 u158 u159 u160 u161 u162 u163 u164 u165 u166 u167 u168 u169 u170 u171 u172 u173 u174 u175 u176 u177 u178 u179 u180 u181 u182 u183 u184 u185 u186 u187 u188 u189 u190 u191 u192 u193 u194 u195 u196 u197 u198 u199 u200 u201 u202 u203 u204 u205 u206 u207 u208 u209 u210 u211 u212 u213 u214 u215 u216 u217 u218 u219 u220 u221 u222 u223 u224 u225 u226 u227 u228 u229 u230 u231 u232 u233 u234 u235 u236 u237 u238 u239 u240 u241 u242 u243 u244 u245 u246 u247 u248 u249 u250 u251 u252 u253 u254 u255 u256 u257 u258 u259 u260 u261 u262 u263 u264 u265 u266 u267 u268 u269 u270 u271 u272 u273 u274 u275 u276 u277 u278 u279 u280 u281 u282 u283 u284 u285 u286 u287 u288 u289 u290 u291 u292 u293 u294 u295 u296 u297 u298 u299 u300 u301 u302 u303 u304 u305 u306 u307 u308 u309 u310 u311 u312 u313 u314 u315 u316 u317 u318 u319 u320 u321 u322 u323 u324 u325 u326 u327 u328 u329 u330 u331 u332 u333 u334 u335 u336 u337 u338 u339 u340 u341 u342 u343 u344 u345 u346 u347 u348 u349 u350 u351 u352 u353 u354 u355 u356 u357 u358 u359 u360 u361 u362 u363 u364 u365 u366 u367 u368 u369 u370 u371 u372 u373 u374 u375 u376 u377 u378 u379 u380 u381 u382 u383 u384 u385 u386 u387 u388 u389 u390 u391 u392 u393 u394 u395 u396 u397 u398 u399 u400 u401 u402 u403 u404 u405 u406 u407 u408 u409 u410 u411 u412 u413 u414 u415 u416 u417 u418 u419 u420 u421 u422 u423 u424 u425 u426 u427 u428 u429 u430 u431 u432 u433 u434 u435 u436 u437 u438 u439 u440 u441 u442 u443 u444 u445 u446 u447 u448 u449 u450 u451 u452 u453 u454 u455 u456 u457 u458 u459 u460 u461 u462 u463 u464 u465 u466 u467 u468 u469 u470 u471 u472 u473 u474 u475 u476 u477 u478 u479 u480 u481 u482 u483 u484 u485 u486 u487 u488 u489 u490 u491 u492 u493 u494 u495 u496 u497 u498 u499 u500 u501 u502 u503 u504 u505 u506 u507 u508 u509 u510 u511 u512 u513 u514 u515 u516 u517 u518 u519 u520 u521 u522 u523 u524 u525 u526 u527 u528 u529 u530 u531 u532 u533 u534 u535 u536 u537 u538 u539 u540 u541 u542 u543 u544 u545 u546 u547 u548 u549 u550 u551 u552 u553 u554 u555 u556 u557 u558 u559 u560 u561 u562 u563 u564 u565 u566 u567 u568 u569 u570 u571 u572 u573 u574 u575 u576 u577 u578 u579 u580 u581 u582 u583 u584 u585 u586 u587 u588 u589 u590 u591 u592 u593 u594 u595 u596 u597 u598 u599 u600 u601 u602 u603 u604 u605 u606 u607 u608 u609 u610 u611 u612 u613 u614 u615 u616 u617 u618 u619 u620 u621 u622 u623 u624 u625 u626 u627 u628 u629 u630 u631 u632 u633 u634 u635 u636 u637 u638 u639 u640 u641 u642 u643 u644 u645 u646 u647 u648 u649 u650 u651 u652 u653 u654 u655 u656 u657 u658 u659 u660 u661 u662 u663 u664 u665 u666 u667 u668 u669 u670 u671 u672 u673 u674 u675 u676 u677 u678 u679 u680 u681 u682 u683 u684 u685 u686 u687 u688 u689 u690 u691 u692 u693 u694 u695 u696 u697 u698 u699 u700 u701 u702 u703 u704 u705 u706 u707 u708 u709 u710 u711 u712 u713 u714 u715 u716 u717 u718 u719 u720 u721 u722 u723 u724 u725 u726 u727 u728 u729 u730 u731 u732 u733 u734 u735 Q' K1 a1
  conv at a1 => intro a w; lhs; arg 2; whnf
  cases kq with
  | zero => exact absurd HA.out (by simp [laws_FnLeavesTorn.j7])
  | succ kj114 =>
    have H := HA.out
    clear HA
    simp only [laws_FnLeavesTorn.j7] at H
    have HC124 := Aside0.mk H
    clear H
    go_upto_if 606 with (fail)
    go_cut [] from 596 to 606 (fun wc => ∃ (kq : Nat), Aside0 (laws_FnLeavesTorn.j8 kq t364 t365 t366 t367 t370 t371 t374 t375 = some true) ∧ Aside0 (kq ≤ kj114) ∧ Aside0 (Below w.heap.size w wc))
    case first =>
      try clear A3; try clear A5; try clear A6; try clear A7; try clear A8; try clear A9; try clear A10; try clear A11; try clear A30; try clear A31; try clear A40; try clear A45; try clear A46; try clear A47; try clear A48; try clear A49; try clear A50; try clear A51; try clear A52; try clear A53; try clear A54; try clear A55; try clear A56; try clear A57; try clear A58; try clear A59; try clear A60; try clear A61; try clear A62; try clear A63; try clear A64; try clear A65; try clear A66; try clear A67; try clear A101; try clear A102; try clear A103; try clear A104; try clear A117; try clear A122
      (try simp only [List.append_eq, List.cons_append, List.nil_append])
      have H := HC124.out
      clear HC124
      by_cases c125 : t356 = true
      · subst c125
        rw [if_pos rfl] at H
        replace H := Option.bind_eq_some_iff.mp H
        obtain ⟨⟨t390, t391⟩, A1260, H⟩ := H
        (try dsimp only at H)
        have A126 := Aside0.mk A1260
        clear A1260
        replace H := Option.bind_eq_some_iff.mp H
        obtain ⟨⟨t392, t393⟩, A1270, H⟩ := H
        (try dsimp only at H)
        have A127 := Aside0.mk A1270
        clear A1270
        replace H := Option.bind_eq_some_iff.mp H
        obtain ⟨⟨t394, t395⟩, A1280, H⟩ := H
        (try dsimp only at H)
        have A128 := Aside0.mk A1280
        clear A1280
        replace H := Option.bind_eq_some_iff.mp H
        obtain ⟨⟨t396, t397⟩, A1290, H⟩ := H
        (try dsimp only at H)
        have A129 := Aside0.mk A1290
        clear A1290
        by_cases c130 : t355 = (wrap64 (t354 + 1))
        · rw [if_pos c130] at H
          have c130b0 : (t355 == (wrap64 (t354 + 1))) = true := beq_iff_eq.mpr c130
          have c130b1 : (t355 != (wrap64 (t354 + 1))) = false := bne_eq_false_iff_eq.mpr c130
          clear c130
          (first | rw [c130b0] | (simp only [i64_w, i32_w]; rw [c130b0]) | skip)
          by_cases c131 : t360 = (wrap64 (t354 + t355))
          · rw [if_pos c131] at H
            have c131b0 : (t360 == (wrap64 (t354 + t355))) = true := beq_iff_eq.mpr c131
            have c131b1 : (t360 != (wrap64 (t354 + t355))) = false := bne_eq_false_iff_eq.mpr c131
            clear c131
            by_cases c132 : t391 = true
            · subst c132
              rw [if_pos rfl] at H
              by_cases c133 : t390 = t353
              · rw [if_pos c133] at H
                have c133b0 : (t390 == t353) = true := beq_iff_eq.mpr c133
                have c133b1 : (t390 != t353) = false := bne_eq_false_iff_eq.mpr c133
                clear c133
                by_cases c134 : t393 = true
                · subst c134
                  rw [if_pos rfl] at H
                  by_cases c135 : t392 = t353
                  · rw [if_pos c135] at H
                    subst c135
                    by_cases c136 : t395 = true
                    · subst c136
                      rw [if_pos rfl] at H
                      by_cases c137 : t394 = true
                      · subst c137
                        rw [if_pos rfl] at H
                        by_cases c138 : t397 = true
                        · subst c138
                          rw [if_pos rfl] at H
                          by_cases c139 : t396 = true
                          · subst c139
                            rw [if_pos rfl] at H
                            exact absurd H (by simp)
                          · replace c139 := Bool.eq_false_iff.mpr c139
                            subst c139
                            rw [if_neg (show ¬ (false = true) by decide)] at H
                            have H' := Aside0.mk H
                            clear H
                            go_wp2_with (first | ((with_reducible refine gate_callee (f := 86) rfl ?_); refine goesL_ (some 609) rfl rfl Try.func86 (by kernel_rfl) rfl #[.int .i64 t354] rfl (by (try simp only [List.map_toArray, List.map_cons, List.map_nil]); first | done | rfl | (simp only [List.length_drop, List.length_take]; rfl)) ?_; (with_reducible refine (impl_LeafOfPage.calls t354 t390 true _ A126.out).mono ?_); rintro e w' ⟨rfl, ⟨nd, rfl⟩⟩; refine ⟨_, rfl, ?_⟩) | ((with_reducible refine gate_callee (f := 86) rfl ?_); refine goesL_ (some 614) rfl rfl Try.func86 (by kernel_rfl) rfl #[.int .i64 t355] rfl (by (try simp only [List.map_toArray, List.map_cons, List.map_nil]); first | done | rfl | (simp only [List.length_drop, List.length_take]; rfl)) ?_; (with_reducible refine (impl_LeafOfPage.calls t355 t392 true _ A127.out).mono ?_); rintro e w' ⟨rfl, ⟨nd, rfl⟩⟩; refine ⟨_, rfl, ?_⟩) | ((with_reducible refine gate_callee (f := 87) rfl ?_); refine goesL_ (some 619) rfl rfl Try.func87 (by kernel_rfl) rfl #[.int .i64 t354] rfl (by (try simp only [List.map_toArray, List.map_cons, List.map_nil]); first | done | rfl | (simp only [List.length_drop, List.length_take]; rfl)) ?_; (with_reducible refine (impl_IsRightPage.calls t354 true true _ A128.out).mono ?_); rintro e w' ⟨rfl, ⟨nd, rfl⟩⟩; refine ⟨_, rfl, ?_⟩) | ((with_reducible refine gate_callee (f := 87) rfl ?_); refine goesL_ (some 624) rfl rfl Try.func87 (by kernel_rfl) rfl #[.int .i64 t355] rfl (by (try simp only [List.map_toArray, List.map_cons, List.map_nil]); first | done | rfl | (simp only [List.length_drop, List.length_take]; rfl)) ?_; (with_reducible refine (impl_IsRightPage.calls t355 false true _ A129.out).mono ?_); rintro e w' ⟨rfl, ⟨nd, rfl⟩⟩; refine ⟨_, rfl, ?_⟩))
                            go_meet
                            case rel => exact ⟨_, H', ⟨by first | omega | exact Nat.le_refl _⟩, ⟨by repeat (first | (with_reducible first | exact HB.out | apply below_alloc | apply pw_below_drewN | apply below_drew1) | exact HB.out)⟩⟩
                        · replace c138 := Bool.eq_false_iff.mpr c138
                          subst c138
                          rw [if_neg (show ¬ (false = true) by decide)] at H
                          exact absurd H (by simp)
                      · replace c137 := Bool.eq_false_iff.mpr c137
                        subst c137
                        rw [if_neg (show ¬ (false = true) by decide)] at H
                        exact absurd H (by simp)
                    · replace c136 := Bool.eq_false_iff.mpr c136
                      subst c136
                      rw [if_neg (show ¬ (false = true) by decide)] at H
                      exact absurd H (by simp)
                  · rw [if_neg c135] at H
                    have c135b0 : (t392 == t353) = false := beq_eq_false_iff_ne.mpr c135
                    have c135b1 : (t392 != t353) = true := bne_iff_ne.mpr c135
                    exact absurd H (by simp)
                · replace c134 := Bool.eq_false_iff.mpr c134
                  subst c134
                  rw [if_neg (show ¬ (false = true) by decide)] at H
                  exact absurd H (by simp)
              · rw [if_neg c133] at H
                have c133b0 : (t390 == t353) = false := beq_eq_false_iff_ne.mpr c133
                have c133b1 : (t390 != t353) = true := bne_iff_ne.mpr c133
                exact absurd H (by simp)
            · replace c132 := Bool.eq_false_iff.mpr c132
              subst c132
              rw [if_neg (show ¬ (false = true) by decide)] at H
              exact absurd H (by simp)
          · rw [if_neg c131] at H
            have c131b0 : (t360 == (wrap64 (t354 + t355))) = false := beq_eq_false_iff_ne.mpr c131
            have c131b1 : (t360 != (wrap64 (t354 + t355))) = true := bne_iff_ne.mpr c131
            exact absurd H (by simp)
        · rw [if_neg c130] at H
          have c130b0 : (t355 == (wrap64 (t354 + 1))) = false := beq_eq_false_iff_ne.mpr c130
          have c130b1 : (t355 != (wrap64 (t354 + 1))) = true := bne_iff_ne.mpr c130
          (first | rw [c130b0] | (simp only [i64_w, i32_w]; rw [c130b0]) | skip)
          exact absurd H (by simp)
      · replace c125 := Bool.eq_false_iff.mpr c125
        subst c125
        rw [if_neg (show ¬ (false = true) by decide)] at H
        have H' := Aside0.mk H
        clear H
        go_wp2
        go_meet
        case rel => exact ⟨_, H', ⟨by first | omega | exact Nat.le_refl _⟩, ⟨by repeat (first | (with_reducible first | exact HB.out | apply below_alloc | apply pw_below_drewN | apply below_drew1) | exact HB.out)⟩⟩
    case rest =>
      clear HC124
      try clear p2
      try clear p6
      try clear c10
      try clear c11
      try clear c12
      try clear c13
      try clear c14
      try clear c14b0
      try clear c14b1
      try clear c14b2
      try clear c15
      try clear c15b0
      try clear c15b1
      try clear c16
      try clear c16b0
      try clear c16b1
      try clear c16b2
      try clear c17
      try clear c17b0
      try clear c17b1
      try clear c18
      try clear c18b0
      try clear c18b1
      try clear c18b2
      try clear c19
      try clear c19b0
      try clear c19b1
      try clear c20
      try clear c20b0
      try clear c20b1
      try clear c20b2
      try clear c21
      try clear c22
      try clear c24
      try clear c25
      try clear c25b0
      try clear c25b1
      try clear c26
      try clear c26b0
      try clear c27
      try clear c29
      try clear c33
      try clear c33b0
      try clear c34
      try clear c34b0
      try clear c35
      try clear c36
      try clear c36b0
      try clear c36b1
      try clear c37
      try clear c38
      try clear c39
      try clear c39b0
      try clear c41
      try clear c42
      try clear c42b0
      try clear c43
      try clear c43b0
      try clear c43b1
      try clear c44
      try clear c44b0
      try clear c44b1
      try clear c57
      try clear c59
      try clear c63
      try clear c64
      try clear p64
      try clear c65
      try clear c66
      try clear c67
      try clear c68
      try clear c69
      try clear c70
      try clear c71
      try clear c72
      try clear c73
      try clear c74
      try clear c74b0
      try clear c74b1
      try clear c74b2
      try clear c75
      try clear c75b0
      try clear c75b1
      try clear c76
      try clear c76b0
      try clear c76b1
      try clear c77
      try clear c77b0
      try clear c77b1
      try clear c77b2
      try clear c78
      try clear c78b0
      try clear c78b1
      try clear c79
      try clear c79b0
      try clear c79b1
      try clear c79b2
      try clear c80
      try clear c80b0
      try clear c80b1
      try clear c81
      try clear c81b0
      try clear c81b1
      try clear c82
      try clear c82b0
      try clear c82b1
      try clear c82b2
      try clear c83
      try clear c83b0
      try clear c83b1
      try clear c83b2
      try clear c84
      try clear c84b0
      try clear c84b1
      try clear c84b2
      try clear c85
      try clear c85b0
      try clear c85b1
      try clear c86
      try clear c86b0
      try clear c86b1
      try clear c87
      try clear c87b0
      try clear c87b1
      try clear c87b2
      try clear c88
      try clear c88b0
      try clear c88b1
      try clear c89
      try clear c89b0
      try clear c89b1
      try clear c89b2
      try clear c90
      try clear c90b0
      try clear c90b1
      try clear c91
      try clear c91b0
      try clear c91b1
      try clear c91b2
      try clear c92
      try clear c92b0
      try clear c92b1
      try clear c93
      try clear c93b0
      try clear c93b1
      try clear c93b2
      try clear c94
      try clear c94b0
      try clear c94b1
      try clear c94b2
      try clear c95
      try clear c96
      try clear c96b0
      try clear c96b1
      try clear c96b2
      try clear c97
      try clear c97b0
      try clear c97b1
      try clear c97b2
      try clear c98
      try clear c100
      try clear c105
      try clear c105b0
      try clear c106
      try clear c106b0
      try clear c107
      try clear c107b0
      try clear c108
      try clear c109
      try clear c110
      try clear c111
      try clear c111b0
      try clear c111b1
      try clear c112
      try clear c113
      try clear c114
      try clear c114b0
      try clear c116
      try clear c119
      try clear c120
      try clear c121
      try clear c121b0
      try clear c123
      try clear c125
      try clear c130
      try clear c130b0
      try clear c130b1
      try clear c131
      try clear c131b0
      try clear c131b1
      try clear c132
      try clear c133
      try clear c133b0
      try clear c133b1
      try clear c134
      try clear c135
      try clear c135b0
      try clear c135b1
      try clear c136
      try clear c137
      try clear c138
      try clear c139
      try clear p2
      try clear p6
      try clear p64
      obtain ⟨kq, HA, HJ123, HB⟩ := hcut
      rename_i K1 a1
      exact nx w t364 t365 t366 t367 t370 t371 t374 t375 kq wc HA HB _ _ _ _ _ _ _ _ _ _ _ _ _ _ _ _ _ _ _ _ _ _ _ _ _ _ _ _ _ _ _ _ _ _ _ _ _ _ _ _ _ _ _ _ _ _ _ _ _ _ _ _ _ _ _ _ _ _ _ _ _ _ _ _ _ _ _ _ _ _ _ _ _ _ _ _ _ _ _ _ _ _ _ _ _ _ _ _ _ _ _ _ _ _ _ _ _ _ _ _ _ _ _ _ _ _ _ _ _ _ _ _ _ _ _ _ _ _ _ _ _ _ _ _ _ _ _ _ _ _ _ _ _ _ _ _ _ _ _ _ _ _ _ _ _ _ _ _ _ _ _ _ _ _ _ _ _ _ _ _ _ _ _ _ _ _ _ _ _ _ _ _ _ _ _ _ _ _ _ _ _ _ _ _ _ _ _ _ _ _ _ _ _ _ _ _ _ _ _ _ _ _ _ _ _ _ _ _ _ _ _ _ _ _ _ _ _ _ _ _ _ _ _ _ _ _ _ _ _ _ _ _ _ _ _ _ _ _ _ _ _ _ _ _ _ _ _ _ _ _ _ _ _ _ _ _ _ _ _ _ _ _ _ _ _ _ _ _ _ _ _ _ _ _ _ _ _ _ _ _ _ _ _ _ _ _ _ _ _ _ _ _ _ _ _ _ _ _ _ _ _ _ _ _ _ _ _ _ _ _ _ _ _ _ _ _ _ _ _ _ _ _ _ _ _ _ _ _ _ _ _ _ _ _ _ _ _ _ _ _ _ _ _ _ _ _ _ _ _ _ _ _ _ _ _ _ _ _ _ _ _ _ _ _ _ _ _ _ _ _ _ _ _ _ _ _ _ _ _ _ _ _ _ _ _ _ _ _ _ _ _ _ _ _ _ _ _ _ _ _ _ _ _ _ _ _ _ _ _ _ _ _ _ _ _ _ _ _ _ _ _ _ _ _ _ _ _ _ _ _ _ _ _ _ _ _ _ _ _ _ _ _ _ _ _ _ _ _ _ _ _ _ _ _ _ _ _ _ _ _ _ _ _ _ _ _ _ _ _ _ _ _ _ _ _ _ _ _ _ _ _ _ _ _ _ _ _ _ _ _ _ _ _ _ _ _ _ _ _ _ _ _ _ _ _ _ _ _ _ _ _ _ _ _ _ _ _ _ _ _ _ _ _ _ _ _ _ _ _ _ _ _ _ _ _ _ _ _ _ _ _ _ _ _ _ _ _ _ _ _ _ _ _ _ _ _ _ _ _ _ _ _ _ _ _ _ _ _ _ _ _ _ _ _ _ _ _ _ _ _ _ _ _ _ _ _ _ _ _ _ _ _ _ _ _ _ _ _ _ _ _ _ _ _ _ _ _ _ _ _ _ _ _ _ _ _ _ _ _ _ _ _ _ _ _ _ _ _ _ _ _ _ _ _ _ _ _ _ _ _ _ _ _ _ _ _ _ _ _ _ _ _ _ _ _ _ _ _ _ _ _ _ _ _ _ _ _ _ _ _ _ _ _ _ _ _ _ _ _ _ _ _ _ _ _ _ _ _ _ _ _ _ _ _ _ _ _ _ _ _ _ _ _ _ _ _ _ _ _ _ _ _ _ _ _ _ _ _ _ _ _ _ _ _ _ _ _ _ K1 a1

end Go.Proofs.Ytjkfgeigicljpaa.PFnLeavesTorn
