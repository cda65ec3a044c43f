-- WRITTEN BY A PROGRAM OF THIS SESSION (xprint), out of the translation: not trusted: it is checked as any text
import Derived.Test.YtjkfgeigicljpaaPFnFoldsPrintx5
namespace Go.Proofs.Ytjkfgeigicljpaa.PFnFoldsPrint
open Go.RowKit Go.Proofs.YtjkfgeigicljpaaW.PrintWords Go.Proofs.YtjkfgeigicljpaaW.PrintLast Go.Proofs.YtjkfgeigicljpaaW.PrintMore
attribute [local go_sem] max2_int min2_int max_two min_two max_three min_three max_four min_four   -- for this text's walks alone
set_option linter.unusedVariables false
set_option linter.unusedSimpArgs false

set_option maxHeartbeats 40000000 in
set_option maxRecDepth 1000000 in
theorem laws_FnFoldsPrint.p12 (nx : laws_FnFoldsPrint.P13) : laws_FnFoldsPrint.P12 := by
  unfold laws_FnFoldsPrint.P12
  intro A1 c1 l1 w HR1 HC1 t280 t281 t282 t283 t284 t285 t289 t303 v305 v291 kq wc HA HO_14 HO_24 HB u0 u2 u3 u4 u11 u12 u13 u15 u16 u17 u18 u19 u20 u21 u22 u23 u25 u26 u27 u28 u29 u30 u31 u32 u33 u34 u35 u36 u37 u38 u39 u40 u41 u42 u43 u44 u45 u46 u47 u48 u49 u50 u51 u52 u53 u54 u55 u56 u57 u58 u59 u60 u61 u62 u63 u64 u65 u66 u67 u68 u69 u70 u71 u72 u73 u74 u75 u76 u77 u78 u79 u80 u81 u82 u83 u84 u85 u86 u87 u88 u89 u90 u91 u92 u93 u94 u95 u96 u97 u98 u99 u100 u101 u102 u103 u104 u105 u106 u107 u108 u109 u110 u111 u112 u113 u114 u115 u116 u117 u118 u119 u120 u121 u122 u123 u124 u125 u126 u127 u128 u129 u130 u131 u132 u133 u134 u135 u136 u137 u138 u139 u140 u141 u142 u143 u144 u145 u146 u147 u148 u149 u150 u151 u152 u153 u154 u155 u156 u157 u158 u159 u160 u161 u162 u163 u164 u165 u166 u167 u168 u169 u170 u171 u172 u173 u174 u175 u176 u177 u178 u179 u180 u181 u182 u183 u184 u185 u186 u187 u188 u189 u190 u191 u192 u193 u194 u195 u196 u197 u198 u199 u200 u201 u202 u203 u204 u205 u206 u207 u208 u209 u210 u211 u212 u213 u214 u215 u216 u217 u218 u219 u220 u221 u222 u223 u224 u225 u226 u227 u228 u229 u230 u231 u232 u233 u234 u235 u236 u237 u238 u239 u240 u241 u242 u243 u244 u245 u246 u247 u248 u249 u250 u251 u252 u253 u254 u255 u256 u257 u258 u259 u260 u261 u262 u263 u264 u265 u266 u267 u268 u269 u270 u271 u272 u273 u274 u275 u276 u277 u278 u279 u280 u281 u282 u283 u284 u285 u286 u287 u288 u289 u290 u291 u292 u293 u294 u295 u296 u297 u298 u299 u300 u301 u302 u303 u304 u305 u306 u307 u308 u309 u310 u311 u312 u313 u314 u315 u316 u317 u318 u319 u320 u321 u322 u323 u324 u325 u326 u327 u328 u329 u330 u331 u332 u333 u334 u335 u336 u337 u338 u339 u340 u341 u342 u343 u344 u345 u346 u347 u348 u349 u350 u351 u352 u353 u354 u355 u356 u357 u358 u359 u360 u361 u362 u363 u364 u365 u366 u367 u368 u369 u370 u371 u372 u373 u374 u375 u376 u377 u378 u379 u380 u381 u382 u383 u384 u385 u386 u387 u388 u389 u390 u391 u392 u393 u394 u395 u396 u397 u398 u399 u400 u401 u402 u403 u404 u405 u406 u407 u408 u409 u410 u411 u412 u413 u414 u415 u416 u417 u418 u419 u420 u421 u422 u423 u424 u425 u426 u427 u428 u429 u430 u431 u432 u433 u434 u435 u436 u437 u438 u439 u440 u441 u442 u443 u444 u445 u446 u447 u448 u449 u450 u451 u452 u453 u454 u455 u456 u457 u458 u459 u460 u461 u462 u463 u464 u465 u466 u467 u468 u469 u470 u471 u472 u473 u474 u475 u476 u477 u478 u479 u480 u481 u482 u483 u484 u485 u486 u487 u488 u489 u490 u491 u492 u493 u494 u495 u496 u497 u498 u499 u500 u501 u502 u503 u504 u505 u506 u507 u508 u509 u510 u511 u512 u513 u514 u515 u516 u517 u518 u519 u520 u521 u522 u523 u524 u525 u526 u527 u528 u529 u530 u531 u532 u533 u534 u535 u536 u537 u538 u539 u540 u541 u542 u543 u544 u545 u546 u547 u548 u549 u550 u551 u552 u553 u554 u555 u556 u557 u558 u559 u560 u561 u562 u563 u564 u565 u566 u567 u568 u569 u570 u571 u572 u573 u574 u575 u576 u577 u578 u579 u580 u581 u582 u583 u584 u585 u586 u587 u588 u589 u590 u591 u592 u593 u594 u595 u596 u597 u598 u599 u600 u601 u602 u603 u604 u605 u606 u607 Q' K1 a1
  conv at a1 => intro a w; lhs; arg 2; whnf
  cases kq with
  | zero => exact absurd HA.out (by simp [laws_FnFoldsPrint.j3])
  | succ kj65 =>
    have H := HA.out
    clear HA
    simp only [laws_FnFoldsPrint.j3] at H
    have HC92 := Aside0.mk H
    clear H
    go_upto_if 263 with (fail)
    go_cut [] from 222 to 263 (fun wc => ∃ (kq : Nat), Aside0 (laws_FnFoldsPrint.j6 kq l1 = some true) ∧ Aside0 (kq ≤ kj65) ∧ Aside0 (Below w.heap.size w wc))
    case first =>
      have H := HC92.out
      clear HC92
      by_cases c93 : t285 = true
      · subst c93
        rw [if_pos rfl] at H
        replace H := Option.bind_eq_some_iff.mp H
        obtain ⟨⟨t320, t321, t322, t323⟩, A940, H⟩ := H
        (try dsimp only at H)
        have A94 := Aside0.mk A940
        clear A940
        replace H := Option.bind_eq_some_iff.mp H
        obtain ⟨⟨t324, t325, t326, t327⟩, A950, H⟩ := H
        (try dsimp only at H)
        have A95 := Aside0.mk A950
        clear A950
        replace H := Option.bind_eq_some_iff.mp H
        obtain ⟨⟨t328, t329⟩, A960, H⟩ := H
        (try dsimp only at H)
        have A96 := Aside0.mk A960
        clear A960
        replace H := Option.bind_eq_some_iff.mp H
        obtain ⟨⟨t330, t331⟩, A970, H⟩ := H
        (try dsimp only at H)
        have A97 := Aside0.mk A970
        clear A970
        have HC98 := Aside0.mk H
        clear H
        go_upto_if 296 with (first | ((with_reducible refine gate_callee (f := 43) rfl ?_); refine goesL_ (some 267) rfl rfl Try.func43 (by kernel_rfl) rfl #[.int .i64 t280, .int .i64 t283] rfl (by (try simp only [List.map_toArray, List.map_cons, List.map_nil]); first | done | rfl | (simp only [List.length_drop, List.length_take]; rfl)) ?_; (with_reducible refine (impl_PlaceOfPage.calls t280 t283 t320 t321 t322 t323 _ A94.out).mono ?_); rintro e w' ⟨rfl, ⟨nd, rfl⟩⟩; refine ⟨_, rfl, ?_⟩) | ((with_reducible refine gate_callee (f := 43) rfl ?_); refine goesL_ (some 275) rfl rfl Try.func43 (by kernel_rfl) rfl #[.int .i64 t280, .int .i64 t284] rfl (by (try simp only [List.map_toArray, List.map_cons, List.map_nil]); first | done | rfl | (simp only [List.length_drop, List.length_take]; rfl)) ?_; (with_reducible refine (impl_PlaceOfPage.calls t280 t284 t324 t325 t326 t327 _ A95.out).mono ?_); rintro e w' ⟨rfl, ⟨nd, rfl⟩⟩; refine ⟨_, rfl, ?_⟩) | ((with_reducible refine gate_callee (f := 44) rfl ?_); refine goesL_ (some 283) rfl rfl Try.func44 (by kernel_rfl) rfl #[.int .i64 t280, .int .i64 t283] rfl (by (try simp only [List.map_toArray, List.map_cons, List.map_nil]); first | done | rfl | (simp only [List.length_drop, List.length_take]; rfl)) ?_; (with_reducible refine (impl_PartnerPage.calls t280 t283 t328 t329 _ A96.out).mono ?_); rintro e w' ⟨rfl, ⟨nd, rfl⟩⟩; refine ⟨_, rfl, ?_⟩) | ((with_reducible refine gate_callee (f := 45) rfl ?_); refine goesL_ (some 290) rfl rfl Try.func45 (by kernel_rfl) rfl #[.int .i64 t283, .int .i64 t284, .int .i64 t280] rfl (by (try simp only [List.map_toArray, List.map_cons, List.map_nil]); first | done | rfl | (simp only [List.length_drop, List.length_take]; rfl)) ?_; (with_reducible refine (impl_SheetOfPartners.calls t283 t284 t280 t330 t331 _ A97.out).mono ?_); rintro e w99 ⟨rfl, hb⟩; refine ⟨_, rfl, ?_⟩; have n0_ := Aside0.mk (Kd.R_below (by (with_reducible repeat (first | apply Kd.R_alloc | apply Kd.R_drewN | apply Kd.R_drew)); exact HO_14.out) hb); have n1_ := Aside0.mk (Kd.R_below (by (with_reducible repeat (first | apply Kd.R_alloc | apply Kd.R_drewN | apply Kd.R_drew)); exact HO_24.out) hb); have n2_ := Aside0.mk (below_step (by repeat (first | (with_reducible first | exact HB.out | apply below_alloc | apply pw_below_drewN | apply below_drew1) | exact HB.out)) hb); clear HO_14; clear HO_24; clear HB; have HO_14 := n0_; have HO_24 := n1_; have HB := n2_; clear n0_ n1_ n2_; (try clear hb); (try clear hb2); (try clear hk); (try clear hi)))
        (try simp only [Act.put, List.setIfInBounds_toArray, List.set_cons_zero, List.set_cons_succ])
        go_cut [42] from 264 to 296 (fun v42 wc => ∃ (kq : Nat) (x42_97 : Int), v42 = .int .i64 x42_97 ∧ Aside0 (laws_FnFoldsPrint.j4 kq l1 t280 t281 t282 t283 t284 t289 t303 t320 t321 t322 t323 t324 t325 t326 t327 t328 t329 t330 t331 x42_97 = some true) ∧ Aside0 (kq ≤ kj65) ∧ Aside0 (Kd.R (Kd.int .i64) 3 wc w.heap.size (fun k_ => some k_ ≠ (v305 : Value).ownBlock) v291 t289) ∧ Aside0 (Kd.R (Kd.int .i64) 3 wc w.heap.size (fun k_ => some k_ ≠ (v291 : Value).ownBlock) v305 t303) ∧ Aside0 (Below w.heap.size w wc))
        case first =>
          have H := HC98.out
          clear HC98
          by_cases c100 : t282 = true
          · subst c100
            rw [if_pos rfl] at H
            have H' := Aside0.mk H
            clear H
            go_wp2
            go_meet
            case rel => exact ⟨_, (wrap64 ((wrap64 (4 * (wrap64 (t281 - 1)))) + 2)), (by first | rfl | (simp; done) | (simp [*]; done)), H', ⟨by first | omega | exact Nat.le_refl _⟩, ⟨by (with_reducible repeat (first | apply Kd.R_alloc | apply Kd.R_drewN | apply Kd.R_drew)); exact HO_14.out⟩, ⟨by (with_reducible repeat (first | apply Kd.R_alloc | apply Kd.R_drewN | apply Kd.R_drew)); exact HO_24.out⟩, ⟨by repeat (first | (with_reducible first | exact HB.out | apply below_alloc | apply pw_below_drewN | apply below_drew1) | exact HB.out)⟩⟩
          · replace c100 := Bool.eq_false_iff.mpr c100
            subst c100
            rw [if_neg (show ¬ (false = true) by decide)] at H
            have H' := Aside0.mk H
            clear H
            go_wp2
            go_meet
            case rel => exact ⟨_, (wrap64 (4 * (wrap64 (t281 - 1)))), (by first | rfl | (simp; done) | (simp [*]; done)), H', ⟨by first | omega | exact Nat.le_refl _⟩, ⟨by (with_reducible repeat (first | apply Kd.R_alloc | apply Kd.R_drewN | apply Kd.R_drew)); exact HO_14.out⟩, ⟨by (with_reducible repeat (first | apply Kd.R_alloc | apply Kd.R_drewN | apply Kd.R_drew)); exact HO_24.out⟩, ⟨by repeat (first | (with_reducible first | exact HB.out | apply below_alloc | apply pw_below_drewN | apply below_drew1) | exact HB.out)⟩⟩
        case rest =>
          clear HC98
          try clear p2
          try clear p3
          try clear q3
          try clear hx3
          try clear p6
          try clear q9
          try clear c10
          try clear c20
          try clear c20b0
          try clear c20b1
          try clear c20b2
          try clear c21
          try clear c21b0
          try clear c21b1
          try clear c22
          try clear c22b0
          try clear c22b1
          try clear c23
          try clear c23b0
          try clear c23b1
          try clear c23b2
          try clear c25
          try clear c26
          try clear c26b0
          try clear c26b1
          try clear c26b2
          try clear c29
          try clear c29b0
          try clear c29b1
          try clear c30
          try clear c30b0
          try clear c30b1
          try clear c31
          try clear c31b0
          try clear c31b1
          try clear c31b2
          try clear p31
          try clear q31
          try clear hx31
          try clear c33
          try clear c34
          try clear c35
          try clear c36
          try clear c36b0
          try clear c36b1
          try clear c36b2
          try clear c37
          try clear c38
          try clear c39
          try clear c40
          try clear c41
          try clear c41b0
          try clear c41b1
          try clear c41b2
          try clear c43
          try clear c44
          try clear c45
          try clear c46
          try clear p64
          try clear c65
          try clear c67
          try clear c69
          try clear c69b0
          try clear c69b1
          try clear c70
          try clear c70b0
          try clear c70b1
          try clear c74
          try clear c76
          try clear c76b0
          try clear c77
          try clear c77b0
          try clear c78
          try clear c78b0
          try clear c79
          try clear c79b0
          try clear c80
          try clear c80b0
          try clear c81
          try clear c81b0
          try clear c82
          try clear c82b0
          try clear c82b1
          try clear c84
          try clear c85
          try clear c85b0
          try clear c85b1
          try clear c87
          try clear c87b0
          try clear c88
          try clear c88b0
          try clear c89
          try clear c89b0
          try clear c89b1
          try clear q90
          try clear q91
          try clear c93
          try clear c100
          try clear hx313_0
          try clear hx319_0
          try clear p2
          try clear p3
          try clear p31
          try clear p313
          try clear p319
          try clear p6
          try clear p64
          try clear q3
          try clear q31
          try clear q313
          try clear q319
          try clear q9
          try clear q90
          try clear q91
          obtain ⟨kq, x42_97, rfl, HA, HJ97, HO_14, HO_24, HB⟩ := hcut
          cases kq with
          | zero => exact absurd HA.out (by simp [laws_FnFoldsPrint.j4])
          | succ kj97 =>
            have H := HA.out
            clear HA
            simp only [laws_FnFoldsPrint.j4] at H
            have HC101 := Aside0.mk H
            clear H
            go_upto_region 31 with (fail)
            go_cut [376] from 297 to 376 (fun v376 wc => ∃ (kq : Nat) (x376_100 : Bool), v376 = .bool x376_100 ∧ Aside0 (laws_FnFoldsPrint.j5 kq l1 t280 t283 t284 t303 x376_100 = some true) ∧ Aside0 (kq ≤ kj97) ∧ Aside0 (Kd.R (Kd.int .i64) 3 wc w.heap.size (fun _ => True) v305 t303) ∧ Aside0 (Below w.heap.size w wc))
            case first =>
              have H := HC101.out
              clear HC101
              by_cases c102 : (Int.tmod t283 2) = 0
              · rw [if_pos c102] at H
                have c102b0 : ((Int.tmod t283 2) == 0) = true := beq_iff_eq.mpr c102
                have c102b1 : ((Int.tmod t283 2) != 0) = false := bne_eq_false_iff_eq.mpr c102
                clear c102
                (first | rw [c102b0] | (simp only [i64_w, i32_w]; rw [c102b0]) | skip)
                by_cases c103 : (Int.tmod t284 2) = 1
                · rw [if_pos c103] at H
                  have c103b0 : ((Int.tmod t284 2) == 1) = true := beq_iff_eq.mpr c103
                  have c103b1 : ((Int.tmod t284 2) != 1) = false := bne_eq_false_iff_eq.mpr c103
                  clear c103
                  by_cases c104 : t323 = true
                  · subst c104
                    rw [if_pos rfl] at H
                    by_cases c105 : t320 = t281
                    · rw [if_pos c105] at H
                      have c105b0 : (t320 == t281) = true := beq_iff_eq.mpr c105
                      have c105b1 : (t320 != t281) = false := bne_eq_false_iff_eq.mpr c105
                      clear c105
                      by_cases c106 : (t321 != t282) = true
                      · rw [if_pos c106] at H
                        have c106b0 : (t321 != t282) = true := c106
                        (try (have c106b1 : decide (t321 = t282) = false := by simpa using c106))
                        (try (have c106b2 : (t321 == t282) = false := by simpa using c106))
                        (try (have c106b3 : ¬ (t321 = t282) := by simpa using c106))
                        clear c106
                        exact absurd H laws_FnFoldsPrint.j5_dead
                      · rw [if_neg c106] at H
                        have c106b0 : (t321 != t282) = false := by simpa using c106
                        (try (have c106b1 : decide (t321 = t282) = true := by simpa using c106))
                        (try (have c106b2 : (t321 == t282) = true := by simpa using c106))
                        clear c106
                        by_cases c107 : t322 = true
                        · subst c107
                          rw [if_pos rfl] at H
                          exact absurd H laws_FnFoldsPrint.j5_dead
                        · replace c107 := Bool.eq_false_iff.mpr c107
                          subst c107
                          rw [if_neg (show ¬ (false = true) by decide)] at H
                          by_cases c108 : t327 = true
                          · subst c108
                            rw [if_pos rfl] at H
                            by_cases c109 : t324 = t281
                            · rw [if_pos c109] at H
                              have c109b0 : (t324 == t281) = true := beq_iff_eq.mpr c109
                              have c109b1 : (t324 != t281) = false := bne_eq_false_iff_eq.mpr c109
                              clear c109
                              by_cases c110 : (t325 != t282) = true
                              · rw [if_pos c110] at H
                                have c110b0 : (t325 != t282) = true := c110
                                (try (have c110b1 : decide (t325 = t282) = false := by simpa using c110))
                                (try (have c110b2 : (t325 == t282) = false := by simpa using c110))
                                (try (have c110b3 : ¬ (t325 = t282) := by simpa using c110))
                                clear c110
                                exact absurd H laws_FnFoldsPrint.j5_dead
                              · rw [if_neg c110] at H
                                have c110b0 : (t325 != t282) = false := by simpa using c110
                                (try (have c110b1 : decide (t325 = t282) = true := by simpa using c110))
                                (try (have c110b2 : (t325 == t282) = true := by simpa using c110))
                                clear c110
                                by_cases c111 : t326 = true
                                · subst c111
                                  rw [if_pos rfl] at H
                                  by_cases c112 : t329 = true
                                  · subst c112
                                    rw [if_pos rfl] at H
                                    by_cases c113 : t328 = t284
                                    · rw [if_pos c113] at H
                                      have c113b0 : (t328 == t284) = true := beq_iff_eq.mpr c113
                                      have c113b1 : (t328 != t284) = false := bne_eq_false_iff_eq.mpr c113
                                      clear c113
                                      by_cases c114 : t331 = true
                                      · subst c114
                                        rw [if_pos rfl] at H
                                        by_cases c115 : t330 = t281
                                        · rw [if_pos c115] at H
                                          have c115b0 : (t330 == t281) = true := beq_iff_eq.mpr c115
                                          have c115b1 : (t330 != t281) = false := bne_eq_false_iff_eq.mpr c115
                                          clear c115
                                          by_cases c116 : 0 ≤ x42_97
                                          · rw [if_pos c116] at H
                                            have c116b0 : decide (0 ≤ x42_97) = true := decide_eq_true c116
                                            clear c116
                                            by_cases c117 : x42_97 < (t289.length : Int)
                                            · rw [if_pos c117] at H
                                              have c117b0 : decide (x42_97 < (t289.length : Int)) = true := decide_eq_true c117
                                              clear c117
                                              by_cases c118 : (rd t289 x42_97) = t283
                                              · rw [if_pos c118] at H
                                                have c118b0 : ((rd t289 x42_97) == t283) = true := beq_iff_eq.mpr c118
                                                have c118b1 : ((rd t289 x42_97) != t283) = false := bne_eq_false_iff_eq.mpr c118
                                                clear c118
                                                obtain ⟨ji119, hji119⟩ : ∃ j_ : Int, (wrap64 (x42_97 + 1)) = j_ := ⟨_, rfl⟩
                                                replace H : (if 0 ≤ (ji119) then (if (ji119) < (t289.length : Int) then (laws_FnFoldsPrint.j5 kj97 l1 t280 t283 t284 t303 ((rd t289 (ji119)) != t284)) else (none)) else (none)) = some true := by first | (rw [hji119] at H; exact H) | (simp only [hji119] at H ⊢; exact H)
                                                have hji119w : (IntKind.i64.wrap (x42_97 + 1)) = ji119 := (i64_w _).trans hji119
                                                by_cases c120 : 0 ≤ (ji119)
                                                · rw [if_pos c120] at H
                                                  have c120b0 : decide (0 ≤ (ji119)) = true := decide_eq_true c120
                                                  clear c120
                                                  by_cases c121 : (ji119) < (t289.length : Int)
                                                  · rw [if_pos c121] at H
                                                    have c121b0 : decide ((ji119) < (t289.length : Int)) = true := decide_eq_true c121
                                                    clear c121
                                                    have H' := Aside0.mk H
                                                    clear H
                                                    obtain ⟨Ao122, co122, eo122⟩ := Kd.R_slice HO_14.out
                                                    subst eo122
                                                    have p332 : 0 ≤ (x42_97 : Int) := of_decide_eq_true (by first | (with_reducible assumption) | assumption)
                                                    have q332 : x42_97 < (t289.length : Int) := of_decide_eq_true (by first | (with_reducible assumption) | assumption)
                                                    obtain ⟨ad332, e332, hx332_0⟩ := Kd.at_int (Kd.R_reads' HO_14.out).2.2 x42_97 p332 q332
                                                    cases e332
                                                    replace p332 := eq_true p332
                                                    replace q332 := eq_true q332
                                                    have p333 : 0 ≤ ((ji119) : Int) := of_decide_eq_true (by first | (with_reducible assumption) | assumption)
                                                    have q333 : (ji119) < (t289.length : Int) := of_decide_eq_true (by first | (with_reducible assumption) | assumption)
                                                    obtain ⟨ad333, e333, hx333_0⟩ := Kd.at_int (Kd.R_reads' HO_14.out).2.2 (ji119) p333 q333
                                                    obtain rfl : ad332 = ad333 := (by injection e333)
                                                    replace p333 := eq_true p333
                                                    replace q333 := eq_true q333
                                                    go_wp2
                                                    go_meet
                                                    case rel => exact ⟨_, (((rd t289 (ji119)) != t284)), (by first | rfl | (simp; done) | (simp only [← hji119] <;> (first | rfl | simp)) | (simp [*]; done)), H', ⟨by have := HJ97.out; first | omega | exact Nat.le_refl _⟩, ⟨by (with_reducible repeat (first | apply Kd.R_alloc | apply Kd.R_drewN | apply Kd.R_drew)); exact Kd.R_mono HO_24.out (fun _ hk => trivial)⟩, ⟨by repeat (first | (with_reducible first | exact HB.out | apply below_alloc | apply pw_below_drewN | apply below_drew1) | exact HB.out)⟩⟩
                                                  · rw [if_neg c121] at H
                                                    exact absurd H (by simp)
                                                · rw [if_neg c120] at H
                                                  exact absurd H (by simp)
                                              · rw [if_neg c118] at H
                                                have c118b0 : ((rd t289 x42_97) == t283) = false := beq_eq_false_iff_ne.mpr c118
                                                have c118b1 : ((rd t289 x42_97) != t283) = true := bne_iff_ne.mpr c118
                                                exact absurd H laws_FnFoldsPrint.j5_dead
                                            · rw [if_neg c117] at H
                                              exact absurd H (by simp)
                                          · rw [if_neg c116] at H
                                            exact absurd H (by simp)
                                        · rw [if_neg c115] at H
                                          have c115b0 : (t330 == t281) = false := beq_eq_false_iff_ne.mpr c115
                                          have c115b1 : (t330 != t281) = true := bne_iff_ne.mpr c115
                                          exact absurd H laws_FnFoldsPrint.j5_dead
                                      · replace c114 := Bool.eq_false_iff.mpr c114
                                        subst c114
                                        rw [if_neg (show ¬ (false = true) by decide)] at H
                                        exact absurd H laws_FnFoldsPrint.j5_dead
                                    · rw [if_neg c113] at H
                                      have c113b0 : (t328 == t284) = false := beq_eq_false_iff_ne.mpr c113
                                      have c113b1 : (t328 != t284) = true := bne_iff_ne.mpr c113
                                      exact absurd H laws_FnFoldsPrint.j5_dead
                                  · replace c112 := Bool.eq_false_iff.mpr c112
                                    subst c112
                                    rw [if_neg (show ¬ (false = true) by decide)] at H
                                    exact absurd H laws_FnFoldsPrint.j5_dead
                                · replace c111 := Bool.eq_false_iff.mpr c111
                                  subst c111
                                  rw [if_neg (show ¬ (false = true) by decide)] at H
                                  exact absurd H laws_FnFoldsPrint.j5_dead
                            · rw [if_neg c109] at H
                              have c109b0 : (t324 == t281) = false := beq_eq_false_iff_ne.mpr c109
                              have c109b1 : (t324 != t281) = true := bne_iff_ne.mpr c109
                              exact absurd H laws_FnFoldsPrint.j5_dead
                          · replace c108 := Bool.eq_false_iff.mpr c108
                            subst c108
                            rw [if_neg (show ¬ (false = true) by decide)] at H
                            exact absurd H laws_FnFoldsPrint.j5_dead
                    · rw [if_neg c105] at H
                      have c105b0 : (t320 == t281) = false := beq_eq_false_iff_ne.mpr c105
                      have c105b1 : (t320 != t281) = true := bne_iff_ne.mpr c105
                      exact absurd H laws_FnFoldsPrint.j5_dead
                  · replace c104 := Bool.eq_false_iff.mpr c104
                    subst c104
                    rw [if_neg (show ¬ (false = true) by decide)] at H
                    exact absurd H laws_FnFoldsPrint.j5_dead
                · rw [if_neg c103] at H
                  have c103b0 : ((Int.tmod t284 2) == 1) = false := beq_eq_false_iff_ne.mpr c103
                  have c103b1 : ((Int.tmod t284 2) != 1) = true := bne_iff_ne.mpr c103
                  exact absurd H laws_FnFoldsPrint.j5_dead
              · rw [if_neg c102] at H
                have c102b0 : ((Int.tmod t283 2) == 0) = false := beq_eq_false_iff_ne.mpr c102
                have c102b1 : ((Int.tmod t283 2) != 0) = true := bne_iff_ne.mpr c102
                (first | rw [c102b0] | (simp only [i64_w, i32_w]; rw [c102b0]) | skip)
                exact absurd H laws_FnFoldsPrint.j5_dead
            case rest =>
              clear HC101
              try clear p2
              try clear p3
              try clear q3
              try clear hx3
              try clear p6
              try clear q9
              try clear c10
              try clear c11
              try clear c12
              try clear c20
              try clear c20b0
              try clear c20b1
              try clear c20b2
              try clear c21
              try clear c21b0
              try clear c21b1
              try clear c22
              try clear c22b0
              try clear c22b1
              try clear c23
              try clear c23b0
              try clear c23b1
              try clear c23b2
              try clear c25
              try clear c26
              try clear c26b0
              try clear c26b1
              try clear c26b2
              try clear c29
              try clear c29b0
              try clear c29b1
              try clear c30
              try clear c30b0
              try clear c30b1
              try clear c31
              try clear c31b0
              try clear c31b1
              try clear c31b2
              try clear p31
              try clear q31
              try clear hx31
              try clear c33
              try clear p33
              try clear q33
              try clear hx33
              try clear c34
              try clear c35
              try clear c36
              try clear c36b0
              try clear c36b1
              try clear c36b2
              try clear c37
              try clear c38
              try clear c39
              try clear c40
              try clear c41
              try clear c41b0
              try clear c41b1
              try clear c41b2
              try clear c43
              try clear c44
              try clear c45
              try clear c46
              try clear p64
              try clear c65
              try clear c67
              try clear c69
              try clear c69b0
              try clear c69b1
              try clear c70
              try clear c70b0
              try clear c70b1
              try clear c74
              try clear c76
              try clear c76b0
              try clear c77
              try clear c77b0
              try clear c78
              try clear c78b0
              try clear c79
              try clear c79b0
              try clear c80
              try clear c80b0
              try clear c81
              try clear c81b0
              try clear c82
              try clear c82b0
              try clear c82b1
              try clear c84
              try clear c85
              try clear c85b0
              try clear c85b1
              try clear c87
              try clear c87b0
              try clear c88
              try clear c88b0
              try clear c89
              try clear c89b0
              try clear c89b1
              try clear q90
              try clear q91
              try clear c93
              try clear c100
              try clear c102
              try clear c102b0
              try clear c102b1
              try clear c103
              try clear c103b0
              try clear c103b1
              try clear c104
              try clear c105
              try clear c105b0
              try clear c105b1
              try clear c106
              try clear c106b0
              try clear c106b1
              try clear c106b2
              try clear c107
              try clear c108
              try clear c109
              try clear c109b0
              try clear c109b1
              try clear c110
              try clear c110b0
              try clear c110b1
              try clear c110b2
              try clear c111
              try clear c112
              try clear c113
              try clear c113b0
              try clear c113b1
              try clear c114
              try clear c115
              try clear c115b0
              try clear c115b1
              try clear c116
              try clear c116b0
              try clear c117
              try clear c117b0
              try clear c118
              try clear c118b0
              try clear c118b1
              try clear c120
              try clear c120b0
              try clear c121
              try clear c121b0
              try clear hx313_0
              try clear hx319_0
              try clear hx332_0
              try clear hx333_0
              try clear p2
              try clear p3
              try clear p31
              try clear p313
              try clear p319
              try clear p332
              try clear p333
              try clear p6
              try clear p64
              try clear q3
              try clear q31
              try clear q313
              try clear q319
              try clear q332
              try clear q333
              try clear q9
              try clear q90
              try clear q91
              obtain ⟨kq, x376_100, rfl, HA, HJ100, HO_24, HB⟩ := hcut
              cases kq with
              | zero => exact absurd HA.out (by simp [laws_FnFoldsPrint.j5])
              | succ kj100 =>
                have H := HA.out
                clear HA
                simp only [laws_FnFoldsPrint.j5] at H
                by_cases c124 : x376_100 = true
                · subst c124
                  rw [if_pos rfl] at H
                  exact absurd H (by simp)
                · replace c124 := Bool.eq_false_iff.mpr c124
                  subst c124
                  rw [if_neg (show ¬ (false = true) by decide)] at H
                  by_cases c125 : (t303.length : Int) = (wrap64 ((wrap64 (4 * t280)) - 4))
                  · rw [if_pos c125] at H
                    have c125b0 : ((t303.length : Int) == (wrap64 ((wrap64 (4 * t280)) - 4))) = true := beq_iff_eq.mpr c125
                    have c125b1 : ((t303.length : Int) != (wrap64 ((wrap64 (4 * t280)) - 4))) = false := bne_eq_false_iff_eq.mpr c125
                    clear c125
                    replace H := Option.bind_eq_some_iff.mp H
                    obtain ⟨t334, A1260, H⟩ := H
                    (try dsimp only at H)
                    have A126 := Aside0.mk A1260
                    clear A1260
                    by_cases c127 : t334 = true
                    · subst c127
                      rw [if_pos rfl] at H
                      replace H := Option.bind_eq_some_iff.mp H
                      obtain ⟨t335, A1280, H⟩ := H
                      (try dsimp only at H)
                      have A128 := Aside0.mk A1280
                      clear A1280
                      by_cases c129 : t335 = true
                      · subst c129
                        rw [if_pos rfl] at H
                        exact absurd H (by simp)
                      · replace c129 := Bool.eq_false_iff.mpr c129
                        subst c129
                        rw [if_neg (show ¬ (false = true) by decide)] at H
                        replace H := Option.bind_eq_some_iff.mp H
                        obtain ⟨t336, A1300, H⟩ := H
                        (try dsimp only at H)
                        have A130 := Aside0.mk A1300
                        clear A1300
                        by_cases c131 : t336 = true
                        · subst c131
                          rw [if_pos rfl] at H
                          exact absurd H (by simp)
                        · replace c131 := Bool.eq_false_iff.mpr c131
                          subst c131
                          rw [if_neg (show ¬ (false = true) by decide)] at H
                          have H' := Aside0.mk H
                          clear H
                          obtain ⟨Ao132, co132, eo132⟩ := Kd.R_slice HO_24.out
                          subst eo132
                          go_wp2_with (first | (go_at_call 32; (with_reducible refine (laws_fRises.calls kj100 _ _ t303 true _ ?side1 ?side2 A126.out).mono ?_); (case side1 => repeat (first | exact (Kd.R_reads' HO_24.out).2.2 | (with_reducible refine Kd.C_alloc ?_ _) | (with_reducible refine Kd.C_drewN ?_ _) | (with_reducible refine Kd.C_drew ?_))); (case side2 => exact (Kd.R_reads' HO_24.out).2.1); rintro e w' ⟨rfl, ⟨nd, rfl⟩⟩) | (go_at_call 42; (with_reducible refine (laws_fHas.calls kj100 _ _ t303 t283 false _ ?side1 ?side2 A128.out).mono ?_); (case side1 => repeat (first | exact (Kd.R_reads' HO_24.out).2.2 | (with_reducible refine Kd.C_alloc ?_ _) | (with_reducible refine Kd.C_drewN ?_ _) | (with_reducible refine Kd.C_drew ?_))); (case side2 => exact (Kd.R_reads' HO_24.out).2.1); rintro e w' ⟨rfl, ⟨nd, rfl⟩⟩) | (go_at_call 42; (with_reducible refine (laws_fHas.calls kj100 _ _ t303 t284 false _ ?side1 ?side2 A130.out).mono ?_); (case side1 => repeat (first | exact (Kd.R_reads' HO_24.out).2.2 | (with_reducible refine Kd.C_alloc ?_ _) | (with_reducible refine Kd.C_drewN ?_ _) | (with_reducible refine Kd.C_drew ?_))); (case side2 => exact (Kd.R_reads' HO_24.out).2.1); rintro e w' ⟨rfl, ⟨nd, rfl⟩⟩))
                          go_meet
                          case rel => exact ⟨_, H', ⟨by have := HJ97.out; have := HJ100.out; first | omega | exact Nat.le_refl _⟩, ⟨by repeat (first | (with_reducible first | exact HB.out | apply below_alloc | apply pw_below_drewN | apply below_drew1) | exact HB.out)⟩⟩
                    · replace c127 := Bool.eq_false_iff.mpr c127
                      subst c127
                      rw [if_neg (show ¬ (false = true) by decide)] at H
                      exact absurd H (by simp)
                  · rw [if_neg c125] at H
                    have c125b0 : ((t303.length : Int) == (wrap64 ((wrap64 (4 * t280)) - 4))) = false := beq_eq_false_iff_ne.mpr c125
                    have c125b1 : ((t303.length : Int) != (wrap64 ((wrap64 (4 * t280)) - 4))) = true := bne_iff_ne.mpr c125
                    exact absurd H (by simp)
      · replace c93 := Bool.eq_false_iff.mpr c93
        subst c93
        rw [if_neg (show ¬ (false = true) by decide)] at H
        have H' := Aside0.mk H
        clear H
        go_wp2
        go_meet
        case rel => exact ⟨_, H', ⟨by first | omega | exact Nat.le_refl _⟩, ⟨by repeat (first | (with_reducible first | exact HB.out | apply below_alloc | apply pw_below_drewN | apply below_drew1) | exact HB.out)⟩⟩
    case rest =>
      clear HC92
      try clear p2
      try clear p3
      try clear q3
      try clear hx3
      try clear p6
      try clear q9
      try clear c10
      try clear c11
      try clear c12
      try clear c13
      try clear c20
      try clear c20b0
      try clear c20b1
      try clear c20b2
      try clear c21
      try clear c21b0
      try clear c21b1
      try clear c22
      try clear c22b0
      try clear c22b1
      try clear c23
      try clear c23b0
      try clear c23b1
      try clear c23b2
      try clear c25
      try clear c26
      try clear c26b0
      try clear c26b1
      try clear c26b2
      try clear c29
      try clear c29b0
      try clear c29b1
      try clear c30
      try clear c30b0
      try clear c30b1
      try clear c31
      try clear c31b0
      try clear c31b1
      try clear c31b2
      try clear p31
      try clear q31
      try clear hx31
      try clear c33
      try clear p33
      try clear q33
      try clear hx33
      try clear c34
      try clear c35
      try clear c36
      try clear c36b0
      try clear c36b1
      try clear c36b2
      try clear c37
      try clear c38
      try clear c39
      try clear c40
      try clear c41
      try clear c41b0
      try clear c41b1
      try clear c41b2
      try clear c43
      try clear c44
      try clear c45
      try clear c46
      try clear p64
      try clear c65
      try clear c67
      try clear c69
      try clear c69b0
      try clear c69b1
      try clear c70
      try clear c70b0
      try clear c70b1
      try clear c74
      try clear c76
      try clear c76b0
      try clear c77
      try clear c77b0
      try clear c78
      try clear c78b0
      try clear c79
      try clear c79b0
      try clear c80
      try clear c80b0
      try clear c81
      try clear c81b0
      try clear c82
      try clear c82b0
      try clear c82b1
      try clear c84
      try clear c85
      try clear c85b0
      try clear c85b1
      try clear c87
      try clear c87b0
      try clear c88
      try clear c88b0
      try clear c89
      try clear c89b0
      try clear c89b1
      try clear q90
      try clear q91
      try clear c93
      try clear c100
      try clear c102
      try clear c102b0
      try clear c102b1
      try clear c103
      try clear c103b0
      try clear c103b1
      try clear c104
      try clear c105
      try clear c105b0
      try clear c105b1
      try clear c106
      try clear c106b0
      try clear c106b1
      try clear c106b2
      try clear c107
      try clear c108
      try clear c109
      try clear c109b0
      try clear c109b1
      try clear c110
      try clear c110b0
      try clear c110b1
      try clear c110b2
      try clear c111
      try clear c112
      try clear c113
      try clear c113b0
      try clear c113b1
      try clear c114
      try clear c115
      try clear c115b0
      try clear c115b1
      try clear c116
      try clear c116b0
      try clear c117
      try clear c117b0
      try clear c118
      try clear c118b0
      try clear c118b1
      try clear c120
      try clear c120b0
      try clear c121
      try clear c121b0
      try clear c124
      try clear c125
      try clear c125b0
      try clear c125b1
      try clear c127
      try clear c129
      try clear c131
      try clear hx313_0
      try clear hx319_0
      try clear hx332_0
      try clear hx333_0
      try clear p2
      try clear p3
      try clear p31
      try clear p313
      try clear p319
      try clear p33
      try clear p332
      try clear p333
      try clear p6
      try clear p64
      try clear q3
      try clear q31
      try clear q313
      try clear q319
      try clear q33
      try clear q332
      try clear q333
      try clear q9
      try clear q90
      try clear q91
      obtain ⟨kq, HA, HJ91, HB⟩ := hcut
      rename_i K1 a1
      exact nx A1 c1 l1 w HR1 HC1 kq wc HA HB _ _ _ _ _ _ _ _ _ _ _ _ _ _ _ _ _ _ _ _ _ _ _ _ _ _ _ _ _ _ _ _ _ _ _ _ _ _ _ _ _ _ _ _ _ _ _ _ _ _ _ _ _ _ _ _ _ _ _ _ _ _ _ _ _ _ _ _ _ _ _ _ _ _ _ _ _ _ _ _ _ _ _ _ _ _ _ _ _ _ _ _ _ _ _ _ _ _ _ _ _ _ _ _ _ _ _ _ _ _ _ _ _ _ _ _ _ _ _ _ _ _ _ _ _ _ _ _ _ _ _ _ _ _ _ _ _ _ _ _ _ _ _ _ _ _ _ _ _ _ _ _ _ _ _ _ _ _ _ _ _ _ _ _ _ _ _ _ _ _ _ _ _ _ _ _ _ _ _ _ _ _ _ _ _ _ _ _ _ _ _ _ _ _ _ _ _ _ _ _ _ _ _ _ _ _ _ _ _ _ _ _ _ _ _ _ _ _ _ _ _ _ _ _ _ _ _ _ _ _ _ _ _ _ _ _ _ _ _ _ _ _ _ _ _ _ _ _ _ _ _ _ _ _ _ _ _ _ _ _ _ _ _ _ _ _ _ _ _ _ _ _ _ _ _ _ _ _ _ _ _ _ _ _ _ _ _ _ _ _ _ _ _ _ _ _ _ _ _ _ _ _ _ _ _ _ _ _ _ _ _ _ _ _ _ _ _ _ _ _ _ _ _ _ _ _ _ _ _ _ _ _ _ _ _ _ _ _ _ _ _ _ _ _ _ _ _ _ _ _ _ _ _ _ _ _ _ _ _ _ _ _ _ _ _ _ _ _ _ _ _ _ _ _ _ _ _ _ _ _ _ _ _ _ _ _ _ _ _ _ _ _ _ _ _ _ _ _ _ _ _ _ _ _ _ _ _ _ _ _ _ _ _ _ _ _ _ _ _ _ _ _ _ _ _ _ _ _ _ _ _ _ _ _ _ _ _ _ _ _ _ _ _ _ _ _ _ _ _ _ _ _ _ _ _ _ _ _ _ _ _ _ _ _ _ _ _ _ _ _ _ _ _ _ _ _ _ _ _ _ _ _ _ _ _ _ _ _ _ _ _ _ _ _ _ _ _ _ _ _ _ _ _ _ _ _ _ _ _ _ _ _ _ _ _ _ _ _ _ _ _ _ _ _ _ _ _ _ _ _ _ _ _ _ _ _ _ _ _ _ _ _ _ _ _ _ _ _ _ _ _ _ _ _ _ _ _ _ _ _ _ _ _ _ _ _ _ _ _ _ _ _ _ _ _ _ _ _ _ _ _ _ _ _ _ _ _ _ _ _ _ _ _ _ _ _ _ _ _ _ _ _ _ _ _ _ _ K1 a1

end Go.Proofs.Ytjkfgeigicljpaa.PFnFoldsPrint
