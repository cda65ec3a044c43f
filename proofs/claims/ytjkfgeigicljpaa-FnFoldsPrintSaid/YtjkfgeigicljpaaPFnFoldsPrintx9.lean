-- WRITTEN BY A PROGRAM OF THIS SESSION (xprint), out of the translation: not trusted: it is checked as any text
import Derived.Test.YtjkfgeigicljpaaPFnFoldsPrintx5
namespace Go.Proofs.Ytjkfgeigicljpaa.PFnFoldsPrint
open Go.RowKit Go.Proofs.YtjkfgeigicljpaaW.PrintWords Go.Proofs.YtjkfgeigicljpaaW.PrintLast Go.Proofs.YtjkfgeigicljpaaW.PrintMore
attribute [local go_sem] max2_int min2_int max_two min_two max_three min_three max_four min_four   -- for this text's walks alone
set_option linter.unusedVariables false
set_option linter.unusedSimpArgs false

set_option maxHeartbeats 40000000 in
set_option maxRecDepth 1000000 in
theorem laws_FnFoldsPrint.p11 (nx : laws_FnFoldsPrint.P12) : laws_FnFoldsPrint.P11 := by
  unfold laws_FnFoldsPrint.P11
  intro k l0 A1 c1 l1 w HR1 HC1 t280 t281 t282 t283 t284 t285 t289 t290 t297 t298 t303 v305 v291 kq x203_13 wc HA HO_14 HO_24 HB u0 u2 u3 u4 u11 u12 u13 u16 u17 u20 u21 u22 u23 u25 u26 u27 u28 u29 u30 u31 u32 u33 u34 u35 u36 u37 u38 u39 u40 u41 u42 u43 u44 u45 u46 u47 u48 u49 u50 u51 u52 u53 u54 u55 u56 u57 u58 u59 u60 u61 u62 u63 u64 u65 u66 u67 u68 u69 u70 u71 u72 u73 u74 u75 u76 u77 u78 u79 u80 u81 u82 u83 u84 u85 u86 u87 u88 u89 u90 u91 u92 u93 u94 u95 u96 u97 u98 u99 u100 u101 u102 u103 u104 u105 u106 u107 u108 u109 u110 u111 u112 u113 u114 u115 u116 u117 u118 u119 u120 u121 u122 u123 u124 u125 u126 u127 u128 u129 u130 u131 u132 u133 u134 u135 u136 u137 u138 u139 u140 u141 u142 u143 u144 u145 u146 u147 u148 u149 u150 u151 u152 u153 u154 u155 u156 u157 u158 u159 u160 u161 u162 u163 u164 u165 u166 u167 u168 u169 u170 u171 u172 u173 u174 u175 u176 u177 u178 u179 u180 u181 u182 u183 u184 u185 u186 u187 u188 u189 u190 u191 u192 u193 u194 u195 u196 u197 u198 u199 u200 u201 u202 u204 u205 u206 u207 u208 u209 u210 u211 u212 u213 u214 u215 u216 u217 u218 u219 u220 u221 u222 u223 u224 u225 u226 u227 u228 u229 u230 u231 u232 u233 u234 u235 u236 u237 u238 u239 u240 u241 u242 u243 u244 u245 u246 u247 u248 u249 u250 u251 u252 u253 u254 u255 u256 u257 u258 u259 u260 u261 u262 u263 u264 u265 u266 u267 u268 u269 u270 u271 u272 u273 u274 u275 u276 u277 u278 u279 u280 u281 u282 u283 u284 u285 u286 u287 u288 u289 u290 u291 u292 u293 u294 u295 u296 u297 u298 u299 u300 u301 u302 u303 u304 u305 u306 u307 u308 u309 u310 u311 u312 u313 u314 u315 u316 u317 u318 u319 u320 u321 u322 u323 u324 u325 u326 u327 u328 u329 u330 u331 u332 u333 u334 u335 u336 u337 u338 u339 u340 u341 u342 u343 u344 u345 u346 u347 u348 u349 u350 u351 u352 u353 u354 u355 u356 u357 u358 u359 u360 u361 u362 u363 u364 u365 u366 u367 u368 u369 u370 u371 u372 u373 u374 u375 u376 u377 u378 u379 u380 u381 u382 u383 u384 u385 u386 u387 u388 u389 u390 u391 u392 u393 u394 u395 u396 u397 u398 u399 u400 u401 u402 u403 u404 u405 u406 u407 u408 u409 u410 u411 u412 u413 u414 u415 u416 u417 u418 u419 u420 u421 u422 u423 u424 u425 u426 u427 u428 u429 u430 u431 u432 u433 u434 u435 u436 u437 u438 u439 u440 u441 u442 u443 u444 u445 u446 u447 u448 u449 u450 u451 u452 u453 u454 u455 u456 u457 u458 u459 u460 u461 u462 u463 u464 u465 u466 u467 u468 u469 u470 u471 u472 u473 u474 u475 u476 u477 u478 u479 u480 u481 u482 u483 u484 u485 u486 u487 u488 u489 u490 u491 u492 u493 u494 u495 u496 u497 u498 u499 u500 u501 u502 u503 u504 u505 u506 u507 u508 u509 u510 u511 u512 u513 u514 u515 u516 u517 u518 u519 u520 u521 u522 u523 u524 u525 u526 u527 u528 u529 u530 u531 u532 u533 u534 u535 u536 u537 u538 u539 u540 u541 u542 u543 u544 u545 u546 u547 u548 u549 u550 u551 u552 u553 u554 u555 u556 u557 u558 u559 u560 u561 u562 u563 u564 u565 u566 u567 u568 u569 u570 u571 u572 u573 u574 u575 u576 u577 u578 u579 u580 u581 u582 u583 u584 u585 u586 u587 u588 u589 u590 u591 u592 u593 u594 u595 u596 u597 u598 u599 u600 u601 u602 u603 u604 u605 u606 u607 Q' K1 a1 K0 a0
  conv at a1 => intro a w; lhs; arg 2; whnf
  conv at a0 => intro a w; lhs; arg 2; whnf
  cases kq with
  | zero => exact absurd HA.out (by simp [laws_FnFoldsPrint.j0])
  | succ kj13 =>
    have H := HA.out
    clear HA
    simp only [laws_FnFoldsPrint.j0] at H
    by_cases c65 : x203_13 = true
    · subst c65
      rw [if_pos rfl] at H
      exact absurd H (by simp)
    · replace c65 := Bool.eq_false_iff.mpr c65
      subst c65
      rw [if_neg (show ¬ (false = true) by decide)] at H
      have HC66 := Aside0.mk H
      clear H
      go_upto_if 204 with (fail)
      go_cut [] from 204 to 204 (fun wc => ∃ (kq : Nat), Aside0 (laws_FnFoldsPrint.j3 kq l1 t280 t281 t282 t283 t284 t285 t289 t303 = some true) ∧ Aside0 (kq ≤ kj13) ∧ Aside0 (Kd.R (Kd.int .i64) 3 wc w.heap.size (fun k_ => some k_ ≠ (v305 : Value).ownBlock) v291 t289) ∧ Aside0 (Kd.R (Kd.int .i64) 3 wc w.heap.size (fun k_ => some k_ ≠ (v291 : Value).ownBlock) v305 t303) ∧ Aside0 (Below w.heap.size w wc))
      case first =>
        have H := HC66.out
        clear HC66
        by_cases c67 : t290 = true
        · subst c67
          rw [if_pos rfl] at H
          have HC68 := Aside0.mk H
          clear H
          go_upto_region 15 with (fail)
          go_cut [221] from 205 to 221 (fun v221 wc => ∃ (kq : Nat) (x221_67 : Bool), v221 = .bool x221_67 ∧ Aside0 (laws_FnFoldsPrint.j1 kq l1 t280 t281 t282 t283 t284 t285 t289 t303 x221_67 = some true) ∧ Aside0 (kq ≤ kj13) ∧ Aside0 (Kd.R (Kd.int .i64) 3 wc w.heap.size (fun k_ => some k_ ≠ (v305 : Value).ownBlock) v291 t289) ∧ Aside0 (Kd.R (Kd.int .i64) 3 wc w.heap.size (fun k_ => some k_ ≠ (v291 : Value).ownBlock) v305 t303) ∧ Aside0 (Below w.heap.size w wc))
          case first =>
            have H := HC68.out
            clear HC68
            by_cases c69 : (t289.length : Int) = (wrap64 (4 * t280))
            · rw [if_pos c69] at H
              have c69b0 : ((t289.length : Int) == (wrap64 (4 * t280))) = true := beq_iff_eq.mpr c69
              have c69b1 : ((t289.length : Int) != (wrap64 (4 * t280))) = false := bne_eq_false_iff_eq.mpr c69
              clear c69
              (first | rw [c69b0] | (simp only [i64_w, i32_w]; rw [c69b0]) | skip)
              by_cases c70 : t298 = (wrap64 (t297 + 1))
              · rw [if_pos c70] at H
                have c70b0 : (t298 == (wrap64 (t297 + 1))) = true := beq_iff_eq.mpr c70
                have c70b1 : (t298 != (wrap64 (t297 + 1))) = false := bne_eq_false_iff_eq.mpr c70
                clear c70
                have H' := Aside0.mk H
                clear H
                obtain ⟨Ao71, co71, eo71⟩ := Kd.R_slice HO_14.out
                subst eo71
                go_wp2
                go_meet
                case rel => exact ⟨_, ((t297 != (wrap64 (2 * t280)))), (by first | rfl | (simp; done) | (simp [*]; done)), H', ⟨by first | omega | exact Nat.le_refl _⟩, ⟨by (with_reducible repeat (first | apply Kd.R_alloc | apply Kd.R_drewN | apply Kd.R_drew)); exact HO_14.out⟩, ⟨by (with_reducible repeat (first | apply Kd.R_alloc | apply Kd.R_drewN | apply Kd.R_drew)); exact HO_24.out⟩, ⟨by repeat (first | (with_reducible first | exact HB.out | apply below_alloc | apply pw_below_drewN | apply below_drew1) | exact HB.out)⟩⟩
              · rw [if_neg c70] at H
                have c70b0 : (t298 == (wrap64 (t297 + 1))) = false := beq_eq_false_iff_ne.mpr c70
                have c70b1 : (t298 != (wrap64 (t297 + 1))) = true := bne_iff_ne.mpr c70
                exact absurd H laws_FnFoldsPrint.j1_dead
            · rw [if_neg c69] at H
              have c69b0 : ((t289.length : Int) == (wrap64 (4 * t280))) = false := beq_eq_false_iff_ne.mpr c69
              have c69b1 : ((t289.length : Int) != (wrap64 (4 * t280))) = true := bne_iff_ne.mpr c69
              (first | rw [c69b0] | (simp only [i64_w, i32_w]; rw [c69b0]) | skip)
              exact absurd H laws_FnFoldsPrint.j1_dead
          case rest =>
            clear HC68
            try clear p2
            try clear p6
            try clear c20
            try clear c20b0
            try clear c20b1
            try clear c20b2
            try clear c21
            try clear c21b0
            try clear c21b1
            try clear c22
            try clear c22b0
            try clear c22b1
            try clear c23
            try clear c23b0
            try clear c23b1
            try clear c23b2
            try clear c25
            try clear c26
            try clear c26b0
            try clear c26b1
            try clear c26b2
            try clear c29
            try clear c29b0
            try clear c29b1
            try clear c30
            try clear c30b0
            try clear c30b1
            try clear c31
            try clear c31b0
            try clear c31b1
            try clear c31b2
            try clear c33
            try clear c34
            try clear c35
            try clear c36
            try clear c36b0
            try clear c36b1
            try clear c36b2
            try clear c37
            try clear c38
            try clear c39
            try clear c40
            try clear c41
            try clear c41b0
            try clear c41b1
            try clear c41b2
            try clear c46
            try clear p64
            try clear c65
            try clear c67
            try clear c69
            try clear c69b0
            try clear c69b1
            try clear c70
            try clear c70b0
            try clear c70b1
            try clear p2
            obtain ⟨kq, x221_67, rfl, HA, HJ67, HO_14, HO_24, HB⟩ := hcut
            cases kq with
            | zero => exact absurd HA.out (by simp [laws_FnFoldsPrint.j1])
            | succ kj67 =>
              have H := HA.out
              clear HA
              simp only [laws_FnFoldsPrint.j1] at H
              by_cases c74 : x221_67 = true
              · subst c74
                rw [if_pos rfl] at H
                exact absurd H (by simp)
              · replace c74 := Bool.eq_false_iff.mpr c74
                subst c74
                rw [if_neg (show ¬ (false = true) by decide)] at H
                have H' := Aside0.mk H
                clear H
                obtain ⟨Ao75, co75, eo75⟩ := Kd.R_slice HO_14.out
                subst eo75
                go_wp2
                go_loopg [224] kj67 (fun kq v224 w' => ∃ (x224_3 : Int), v224 = .int .i64 x224_3 ∧ Aside0 (laws_FnFoldsPrint.l0 kq l1 t280 t281 t282 t283 t284 t285 t289 t303 t289 (t289.length : Int) x224_3 = some true) ∧ Aside0 (kq ≤ kj67) ∧ Aside0 (Kd.R (Kd.int .i64) 3 w' w.heap.size (fun k_ => some k_ ≠ (v305 : Value).ownBlock) (.slice Ao75 t289.length co75) t289) ∧ Aside0 (Kd.R (Kd.int .i64) 3 w' w.heap.size (fun k_ => some k_ ≠ ((.slice Ao75 t289.length co75) : Value).ownBlock ∧ some k_ ≠ ((.slice Ao75 t289.length co75) : Value).ownBlock) v305 t303) ∧ Aside0 (Kd.R (Kd.int .i64) 3 w' w.heap.size (fun k_ => some k_ ≠ (v305 : Value).ownBlock) (.slice Ao75 t289.length co75) t289) ∧ Aside0 (Below w.heap.size w w'))
                case atStart => exact ⟨(0), (by first | rfl | (simp; done) | (simp [*]; done)), H', ⟨Nat.le_refl _⟩, ⟨by (with_reducible repeat (first | apply Kd.R_alloc | apply Kd.R_drewN | apply Kd.R_drew)); exact HO_14.out⟩, ⟨by (with_reducible repeat (first | apply Kd.R_alloc | apply Kd.R_drewN | apply Kd.R_drew)); exact Kd.R_mono HO_24.out (fun _ hk => ⟨hk, hk⟩)⟩, ⟨by (with_reducible repeat (first | apply Kd.R_alloc | apply Kd.R_drewN | apply Kd.R_drew)); exact HO_14.out⟩, ⟨by repeat (first | (with_reducible first | exact HB.out | apply below_alloc | apply pw_below_drewN | apply below_drew1) | exact HB.out)⟩⟩
                case round =>
                  clear H'
                  try clear p2
                  try clear p6
                  try clear c20
                  try clear c20b0
                  try clear c20b1
                  try clear c20b2
                  try clear c21
                  try clear c21b0
                  try clear c21b1
                  try clear c22
                  try clear c22b0
                  try clear c22b1
                  try clear c23
                  try clear c23b0
                  try clear c23b1
                  try clear c23b2
                  try clear c25
                  try clear c26
                  try clear c26b0
                  try clear c26b1
                  try clear c26b2
                  try clear c29
                  try clear c29b0
                  try clear c29b1
                  try clear c30
                  try clear c30b0
                  try clear c30b1
                  try clear c31
                  try clear c31b0
                  try clear c31b1
                  try clear c31b2
                  try clear c33
                  try clear c34
                  try clear c35
                  try clear c36
                  try clear c36b0
                  try clear c36b1
                  try clear c36b2
                  try clear c37
                  try clear c38
                  try clear c39
                  try clear c40
                  try clear c41
                  try clear c41b0
                  try clear c41b1
                  try clear c41b2
                  try clear c46
                  try clear p64
                  try clear c65
                  try clear c67
                  try clear c69
                  try clear c69b0
                  try clear c69b1
                  try clear c70
                  try clear c70b0
                  try clear c70b1
                  try clear c74
                  try clear p2
                  try clear p6
                  try clear p64
                  obtain ⟨x224_3, rfl, HA, HK3, HO_14, HO_24, HO_222, HB⟩ := hrel
                  cases gk with
                  | zero => exact absurd HA.out (by simp [laws_FnFoldsPrint.l0])
                  | succ k3 =>
                    have H := HA.out
                    clear HA
                    simp only [laws_FnFoldsPrint.l0] at H
                    by_cases c76 : x224_3 < (t289.length : Int)
                    · rw [if_pos c76] at H
                      have c76b0 : decide (x224_3 < (t289.length : Int)) = true := decide_eq_true c76
                      clear c76
                      by_cases c77 : 0 ≤ x224_3
                      · rw [if_pos c77] at H
                        have c77b0 : decide (0 ≤ x224_3) = true := decide_eq_true c77
                        clear c77
                        by_cases c78 : x224_3 < (t289.length : Int)
                        · rw [if_pos c78] at H
                          have c78b0 : decide (x224_3 < (t289.length : Int)) = true := decide_eq_true c78
                          clear c78
                          by_cases c79 : (rd t289 x224_3) < 1
                          · rw [if_pos c79] at H
                            have c79b0 : decide ((rd t289 x224_3) < 1) = true := decide_eq_true c79
                            clear c79
                            exact absurd H (by simp)
                          · rw [if_neg c79] at H
                            have c79b0 : decide ((rd t289 x224_3) < 1) = false := decide_eq_false c79
                            clear c79
                            by_cases c80 : (rd t289 x224_3) > (wrap64 (4 * t280))
                            · rw [if_pos c80] at H
                              have c80b0 : decide ((wrap64 (4 * t280)) < (rd t289 x224_3)) = true := decide_eq_true c80
                              clear c80
                              exact absurd H (by simp)
                            · rw [if_neg c80] at H
                              have c80b0 : decide ((wrap64 (4 * t280)) < (rd t289 x224_3)) = false := decide_eq_false c80
                              clear c80
                              have c81b0 := eq_true (of_decide_eq_true (by first | (with_reducible assumption) | assumption) : 0 ≤ x224_3)
                              by_cases c82 : x224_3 ≤ (t289.length : Int)
                              · rw [if_pos c82] at H
                                have c82b0 := eq_true c82
                                have c82b1 : decide (x224_3 ≤ (t289.length : Int)) = true := decide_eq_true c82
                                clear c82
                                obtain ⟨y314, hy314⟩ : ∃ y_ : List Int, y_ = (t289.take (x224_3 : Int).toNat) := ⟨_, rfl⟩
                                replace H : ((laws_fHas.f k3 y314 (rd t289 x224_3)).bind fun t318 => (if t318 = true then (some false) else (if (Int.tmod x224_3 2) = 1 then (if 0 ≤ (wrap64 (x224_3 - 1)) then (if (wrap64 (x224_3 - 1)) < (t289.length : Int) then (if (wrap64 ((rd t289 (wrap64 (x224_3 - 1))) + (rd t289 x224_3))) = (wrap64 ((wrap64 (4 * t280)) + 1)) then (laws_FnFoldsPrint.l0 k3 l1 t280 t281 t282 t283 t284 t285 t289 t303 t289 (t289.length : Int) (wrap64 (x224_3 + 1))) else (some false)) else (none)) else (none)) else (laws_FnFoldsPrint.l0 k3 l1 t280 t281 t282 t283 t284 t285 t289 t303 t289 (t289.length : Int) (wrap64 (x224_3 + 1)))))) = some true := by first | (rw [hy314]; with_reducible exact H) | (have H2_ := (Option.bind_some _ _).symm.trans H; rw [hy314]; with_reducible exact H2_) | (have H2_ := (Option.bind_some _ _).symm.trans H; with_reducible exact H2_) | with_reducible exact H | (rw [hy314]; exact H) | exact H
                                have Ny314 := Aside0.mk hy314
                                clear hy314
                                replace H := Option.bind_eq_some_iff.mp H
                                obtain ⟨t318, A830, H⟩ := H
                                (try dsimp only at H)
                                have A83 := Aside0.mk A830
                                clear A830
                                by_cases c84 : t318 = true
                                · subst c84
                                  rw [if_pos rfl] at H
                                  exact absurd H (by simp)
                                · replace c84 := Bool.eq_false_iff.mpr c84
                                  subst c84
                                  rw [if_neg (show ¬ (false = true) by decide)] at H
                                  by_cases c85 : (Int.tmod x224_3 2) = 1
                                  · rw [if_pos c85] at H
                                    have c85b0 : ((Int.tmod x224_3 2) == 1) = true := beq_iff_eq.mpr c85
                                    have c85b1 : ((Int.tmod x224_3 2) != 1) = false := bne_eq_false_iff_eq.mpr c85
                                    clear c85
                                    obtain ⟨ji86, hji86⟩ : ∃ j_ : Int, (wrap64 (x224_3 - 1)) = j_ := ⟨_, rfl⟩
                                    replace H : (if 0 ≤ (ji86) then (if (ji86) < (t289.length : Int) then (if (wrap64 ((rd t289 (ji86)) + (rd t289 x224_3))) = (wrap64 ((wrap64 (4 * t280)) + 1)) then (laws_FnFoldsPrint.l0 k3 l1 t280 t281 t282 t283 t284 t285 t289 t303 t289 (t289.length : Int) (wrap64 (x224_3 + 1))) else (some false)) else (none)) else (none)) = some true := by first | (rw [hji86] at H; exact H) | (simp only [hji86] at H ⊢; exact H)
                                    (try rw [hji86] at A83)
                                    have hji86w : (IntKind.i64.wrap (x224_3 - 1)) = ji86 := (i64_w _).trans hji86
                                    by_cases c87 : 0 ≤ (ji86)
                                    · rw [if_pos c87] at H
                                      have c87b0 : decide (0 ≤ (ji86)) = true := decide_eq_true c87
                                      clear c87
                                      by_cases c88 : (ji86) < (t289.length : Int)
                                      · rw [if_pos c88] at H
                                        have c88b0 : decide ((ji86) < (t289.length : Int)) = true := decide_eq_true c88
                                        clear c88
                                        by_cases c89 : (wrap64 ((rd t289 (ji86)) + (rd t289 x224_3))) = (wrap64 ((wrap64 (4 * t280)) + 1))
                                        · rw [if_pos c89] at H
                                          have c89b0 : ((wrap64 ((rd t289 (ji86)) + (rd t289 x224_3))) == (wrap64 ((wrap64 (4 * t280)) + 1))) = true := beq_iff_eq.mpr c89
                                          have c89b1 : ((wrap64 ((rd t289 (ji86)) + (rd t289 x224_3))) != (wrap64 ((wrap64 (4 * t280)) + 1))) = false := bne_eq_false_iff_eq.mpr c89
                                          clear c89
                                          have H' := Aside0.mk H
                                          clear H
                                          have p313 : 0 ≤ (x224_3 : Int) := of_decide_eq_true (by first | (with_reducible assumption) | assumption)
                                          have q313 : x224_3 < (t289.length : Int) := of_decide_eq_true (by first | (with_reducible assumption) | assumption)
                                          obtain ⟨ad313, e313, hx313_0⟩ := Kd.at_int (Kd.R_reads' HO_222.out).2.2 x224_3 p313 q313
                                          cases e313
                                          replace p313 := eq_true p313
                                          replace q313 := eq_true q313
                                          have q90 : (x224_3 : Int) ≤ ((t289.length : Int) : Int) := of_decide_eq_true (by first | (with_reducible assumption) | assumption)
                                          obtain ⟨i090, hi090, _, hsz90, _⟩ := info_parts info3
                                          have hroom90 : t289.length ≤ co75 := (Kd.R_reads' HO_14.out).2.1
                                          have hC90 : Kd.C (Kd.int .i64) _ (some ad313) t289.length t289 := (Kd.R_reads' HO_14.out).2.2
                                          have hcut90 := cut_to (P := Try.prog) 28 3 .i64 Try.underlying28 hi090 (some ad313) t289.length co75 x224_3 (of_decide_eq_true (by first | (with_reducible assumption) | assumption)) q90 hroom90
                                          have hr90 := Kd.C_take (m := (x224_3 : Int).toNat) hC90 (by omega)
                                          have hy90 : y314.length = (x224_3 : Int).toNat := (by rw [Ny314.out, List.length_take]; omega)
                                          rw [← Ny314.out] at hr90
                                          rw [← hy90] at hcut90
                                          have HR317 := Aside0.mk hr90
                                          have HC317 := Aside0.mk (show y314.length ≤ co75 from by omega)
                                          clear hr90 hC90 hroom90 hi090 hsz90
                                          have KY90 := Aside0.mk hy90
                                          clear hy90
                                          have KL90 := Aside0.mk (show (x224_3 : Int).toNat ≤ t289.length from by omega)
                                          replace q90 := eq_true q90
                                          go_wp2_with (first | (go_at_call 42; (with_reducible refine (laws_fHas.calls k3 _ _ y314 (rd t289 x224_3) false _ ?side1 ?side2 A83.out).mono ?_); (case side1 => repeat (first | exact (by repeat (first | (with_reducible exact HR317.out) | (with_reducible refine Kd.C_alloc ?_ _) | (with_reducible refine Kd.C_drewN ?_ _) | (with_reducible refine Kd.C_drew ?_) | exact HR317.out)) | (with_reducible refine Kd.C_alloc ?_ _) | (with_reducible refine Kd.C_drewN ?_ _) | (with_reducible refine Kd.C_drew ?_))); (case side2 => exact HC317.out); rintro e w' ⟨rfl, ⟨nd, rfl⟩⟩; have p319 : 0 ≤ ((ji86) : Int) := of_decide_eq_true (by first | (with_reducible assumption) | assumption); have q319 : (ji86) < (t289.length : Int) := of_decide_eq_true (by first | (with_reducible assumption) | assumption); obtain ⟨ad319, e319, hx319_0⟩ := Kd.at_int (Kd.R_reads' HO_14.out).2.2 (ji86) p319 q319; obtain rfl : ad313 = ad319 := (by injection e319); replace p319 := eq_true p319; replace q319 := eq_true q319))
                                          go_roundg k3
                                          case measure => have := HJ67.out; have := HK3.out; omega
                                          case rel => exact ⟨(wrap64 (x224_3 + 1)), (by first | rfl | (simp; done) | (simp [*]; done)), H', ⟨by have := HJ67.out; have := HK3.out; omega⟩, ⟨by (with_reducible repeat (first | apply Kd.R_alloc | apply Kd.R_drewN | apply Kd.R_drew)); exact HO_14.out⟩, ⟨by (with_reducible repeat (first | apply Kd.R_alloc | apply Kd.R_drewN | apply Kd.R_drew)); exact HO_24.out⟩, ⟨by (with_reducible repeat (first | apply Kd.R_alloc | apply Kd.R_drewN | apply Kd.R_drew)); exact HO_222.out⟩, ⟨by repeat (first | (with_reducible first | exact HB.out | apply below_alloc | apply pw_below_drewN | apply below_drew1) | exact HB.out)⟩⟩
                                        · rw [if_neg c89] at H
                                          have c89b0 : ((wrap64 ((rd t289 (ji86)) + (rd t289 x224_3))) == (wrap64 ((wrap64 (4 * t280)) + 1))) = false := beq_eq_false_iff_ne.mpr c89
                                          have c89b1 : ((wrap64 ((rd t289 (ji86)) + (rd t289 x224_3))) != (wrap64 ((wrap64 (4 * t280)) + 1))) = true := bne_iff_ne.mpr c89
                                          exact absurd H (by simp)
                                      · rw [if_neg c88] at H
                                        exact absurd H (by simp)
                                    · rw [if_neg c87] at H
                                      exact absurd H (by simp)
                                  · rw [if_neg c85] at H
                                    have c85b0 : ((Int.tmod x224_3 2) == 1) = false := beq_eq_false_iff_ne.mpr c85
                                    have c85b1 : ((Int.tmod x224_3 2) != 1) = true := bne_iff_ne.mpr c85
                                    have H' := Aside0.mk H
                                    clear H
                                    have p313 : 0 ≤ (x224_3 : Int) := of_decide_eq_true (by first | (with_reducible assumption) | assumption)
                                    have q313 : x224_3 < (t289.length : Int) := of_decide_eq_true (by first | (with_reducible assumption) | assumption)
                                    obtain ⟨ad313, e313, hx313_0⟩ := Kd.at_int (Kd.R_reads' HO_222.out).2.2 x224_3 p313 q313
                                    cases e313
                                    replace p313 := eq_true p313
                                    replace q313 := eq_true q313
                                    have q91 : (x224_3 : Int) ≤ ((t289.length : Int) : Int) := of_decide_eq_true (by first | (with_reducible assumption) | assumption)
                                    obtain ⟨i091, hi091, _, hsz91, _⟩ := info_parts info3
                                    have hroom91 : t289.length ≤ co75 := (Kd.R_reads' HO_14.out).2.1
                                    have hC91 : Kd.C (Kd.int .i64) _ (some ad313) t289.length t289 := (Kd.R_reads' HO_14.out).2.2
                                    have hcut91 := cut_to (P := Try.prog) 28 3 .i64 Try.underlying28 hi091 (some ad313) t289.length co75 x224_3 (of_decide_eq_true (by first | (with_reducible assumption) | assumption)) q91 hroom91
                                    have hr91 := Kd.C_take (m := (x224_3 : Int).toNat) hC91 (by omega)
                                    have hy91 : y314.length = (x224_3 : Int).toNat := (by rw [Ny314.out, List.length_take]; omega)
                                    rw [← Ny314.out] at hr91
                                    rw [← hy91] at hcut91
                                    have HR317 := Aside0.mk hr91
                                    have HC317 := Aside0.mk (show y314.length ≤ co75 from by omega)
                                    clear hr91 hC91 hroom91 hi091 hsz91
                                    have KY91 := Aside0.mk hy91
                                    clear hy91
                                    have KL91 := Aside0.mk (show (x224_3 : Int).toNat ≤ t289.length from by omega)
                                    replace q91 := eq_true q91
                                    go_wp2_with (first | (go_at_call 42; (with_reducible refine (laws_fHas.calls k3 _ _ y314 (rd t289 x224_3) false _ ?side1 ?side2 A83.out).mono ?_); (case side1 => repeat (first | exact (by repeat (first | (with_reducible exact HR317.out) | (with_reducible refine Kd.C_alloc ?_ _) | (with_reducible refine Kd.C_drewN ?_ _) | (with_reducible refine Kd.C_drew ?_) | exact HR317.out)) | (with_reducible refine Kd.C_alloc ?_ _) | (with_reducible refine Kd.C_drewN ?_ _) | (with_reducible refine Kd.C_drew ?_))); (case side2 => exact HC317.out); rintro e w' ⟨rfl, ⟨nd, rfl⟩⟩))
                                    go_roundg k3
                                    case measure => have := HJ67.out; have := HK3.out; omega
                                    case rel => exact ⟨(wrap64 (x224_3 + 1)), (by first | rfl | (simp; done) | (simp [*]; done)), H', ⟨by have := HJ67.out; have := HK3.out; omega⟩, ⟨by (with_reducible repeat (first | apply Kd.R_alloc | apply Kd.R_drewN | apply Kd.R_drew)); exact HO_14.out⟩, ⟨by (with_reducible repeat (first | apply Kd.R_alloc | apply Kd.R_drewN | apply Kd.R_drew)); exact HO_24.out⟩, ⟨by (with_reducible repeat (first | apply Kd.R_alloc | apply Kd.R_drewN | apply Kd.R_drew)); exact HO_222.out⟩, ⟨by repeat (first | (with_reducible first | exact HB.out | apply below_alloc | apply pw_below_drewN | apply below_drew1) | exact HB.out)⟩⟩
                              · rw [if_neg c82] at H
                                exact absurd H (by simp)
                        · rw [if_neg c78] at H
                          exact absurd H (by simp)
                      · rw [if_neg c77] at H
                        exact absurd H (by simp)
                    · rw [if_neg c76] at H
                      have c76b0 : decide (x224_3 < (t289.length : Int)) = false := decide_eq_false c76
                      clear c76
                      have H' := Aside0.mk H
                      clear H
                      go_wp2
                      go_meet
                      case rel => exact ⟨_, H', ⟨by have := HJ67.out; have := HK3.out; first | omega | exact Nat.le_refl _⟩, ⟨by (with_reducible repeat (first | apply Kd.R_alloc | apply Kd.R_drewN | apply Kd.R_drew)); exact HO_14.out⟩, ⟨by (with_reducible repeat (first | apply Kd.R_alloc | apply Kd.R_drewN | apply Kd.R_drew)); exact Kd.R_mono HO_24.out (fun _ hk => hk.1)⟩, ⟨by repeat (first | (with_reducible first | exact HB.out | apply below_alloc | apply pw_below_drewN | apply below_drew1) | exact HB.out)⟩⟩
        · replace c67 := Bool.eq_false_iff.mpr c67
          subst c67
          rw [if_neg (show ¬ (false = true) by decide)] at H
          have H' := Aside0.mk H
          clear H
          go_wp2
          go_meet
          case rel => exact ⟨_, H', ⟨by first | omega | exact Nat.le_refl _⟩, ⟨by (with_reducible repeat (first | apply Kd.R_alloc | apply Kd.R_drewN | apply Kd.R_drew)); exact HO_14.out⟩, ⟨by (with_reducible repeat (first | apply Kd.R_alloc | apply Kd.R_drewN | apply Kd.R_drew)); exact HO_24.out⟩, ⟨by repeat (first | (with_reducible first | exact HB.out | apply below_alloc | apply pw_below_drewN | apply below_drew1) | exact HB.out)⟩⟩
      case rest =>
        clear HC66
        try clear p2
        try clear p3
        try clear q3
        try clear hx3
        try clear p6
        try clear q9
        try clear c20
        try clear c20b0
        try clear c20b1
        try clear c20b2
        try clear c21
        try clear c21b0
        try clear c21b1
        try clear c22
        try clear c22b0
        try clear c22b1
        try clear c23
        try clear c23b0
        try clear c23b1
        try clear c23b2
        try clear c25
        try clear c26
        try clear c26b0
        try clear c26b1
        try clear c26b2
        try clear c29
        try clear c29b0
        try clear c29b1
        try clear c30
        try clear c30b0
        try clear c30b1
        try clear c31
        try clear c31b0
        try clear c31b1
        try clear c31b2
        try clear p31
        try clear q31
        try clear hx31
        try clear c33
        try clear c34
        try clear c35
        try clear c36
        try clear c36b0
        try clear c36b1
        try clear c36b2
        try clear c37
        try clear c38
        try clear c39
        try clear c40
        try clear c41
        try clear c41b0
        try clear c41b1
        try clear c41b2
        try clear c46
        try clear p64
        try clear c65
        try clear c67
        try clear c69
        try clear c69b0
        try clear c69b1
        try clear c70
        try clear c70b0
        try clear c70b1
        try clear c74
        try clear c76
        try clear c76b0
        try clear c77
        try clear c77b0
        try clear c78
        try clear c78b0
        try clear c79
        try clear c79b0
        try clear c80
        try clear c80b0
        try clear c81
        try clear c81b0
        try clear c82
        try clear c82b0
        try clear c82b1
        try clear c84
        try clear c85
        try clear c85b0
        try clear c85b1
        try clear c87
        try clear c87b0
        try clear c88
        try clear c88b0
        try clear c89
        try clear c89b0
        try clear c89b1
        try clear q90
        try clear q91
        try clear hx313_0
        try clear hx319_0
        try clear p2
        try clear p313
        try clear p319
        try clear p6
        try clear p64
        try clear q313
        try clear q319
        try clear q90
        try clear q91
        obtain ⟨kq, HA, HJ65, HO_14, HO_24, HB⟩ := hcut
        rename_i K1 a1
        exact nx A1 c1 l1 w HR1 HC1 t280 t281 t282 t283 t284 t285 t289 t303 v305 v291 kq wc HA HO_14 HO_24 HB _ _ _ _ _ _ _ _ _ _ _ _ _ _ _ _ _ _ _ _ _ _ _ _ _ _ _ _ _ _ _ _ _ _ _ _ _ _ _ _ _ _ _ _ _ _ _ _ _ _ _ _ _ _ _ _ _ _ _ _ _ _ _ _ _ _ _ _ _ _ _ _ _ _ _ _ _ _ _ _ _ _ _ _ _ _ _ _ _ _ _ _ _ _ _ _ _ _ _ _ _ _ _ _ _ _ _ _ _ _ _ _ _ _ _ _ _ _ _ _ _ _ _ _ _ _ _ _ _ _ _ _ _ _ _ _ _ _ _ _ _ _ _ _ _ _ _ _ _ _ _ _ _ _ _ _ _ _ _ _ _ _ _ _ _ _ _ _ _ _ _ _ _ _ _ _ _ _ _ _ _ _ _ _ _ _ _ _ _ _ _ _ _ _ _ _ _ _ _ _ _ _ _ _ _ _ _ _ _ _ _ _ _ _ _ _ _ _ _ _ _ _ _ _ _ _ _ _ _ _ _ _ _ _ _ _ _ _ _ _ _ _ _ _ _ _ _ _ _ _ _ _ _ _ _ _ _ _ _ _ _ _ _ _ _ _ _ _ _ _ _ _ _ _ _ _ _ _ _ _ _ _ _ _ _ _ _ _ _ _ _ _ _ _ _ _ _ _ _ _ _ _ _ _ _ _ _ _ _ _ _ _ _ _ _ _ _ _ _ _ _ _ _ _ _ _ _ _ _ _ _ _ _ _ _ _ _ _ _ _ _ _ _ _ _ _ _ _ _ _ _ _ _ _ _ _ _ _ _ _ _ _ _ _ _ _ _ _ _ _ _ _ _ _ _ _ _ _ _ _ _ _ _ _ _ _ _ _ _ _ _ _ _ _ _ _ _ _ _ _ _ _ _ _ _ _ _ _ _ _ _ _ _ _ _ _ _ _ _ _ _ _ _ _ _ _ _ _ _ _ _ _ _ _ _ _ _ _ _ _ _ _ _ _ _ _ _ _ _ _ _ _ _ _ _ _ _ _ _ _ _ _ _ _ _ _ _ _ _ _ _ _ _ _ _ _ _ _ _ _ _ _ _ _ _ _ _ _ _ _ _ _ _ _ _ _ _ _ _ _ _ _ _ _ _ _ _ _ _ _ _ _ _ _ _ _ _ _ _ _ _ _ _ _ _ _ _ _ _ _ _ _ _ _ _ _ _ _ _ _ _ _ _ _ _ _ _ _ _ _ _ _ _ _ _ _ _ _ _ _ _ _ _ _ _ _ _ _ _ _ _ _ _ _ _ _ _ _ _ _ _ _ _ _ _ _ _ _ _ _ _ _ _ _ _ _ _ _ _ K1 a1

end Go.Proofs.Ytjkfgeigicljpaa.PFnFoldsPrint
