-- WRITTEN BY A PROGRAM OF THIS SESSION (xprint), out of the translation: not trusted: it is checked as any text
import Derived.Test.YtjkfgeigicljpaaGreatDoorPFnPagesNumberedx13
namespace Go.Proofs.YtjkfgeigicljpaaGreatDoor.PFnPagesNumbered
open Go.RowKit Go.Proofs.YtjkfgeigicljpaaGreatDoorW.PrintWords Go.Proofs.YtjkfgeigicljpaaGreatDoorW.PrintLast Go.Proofs.YtjkfgeigicljpaaGreatDoorW.PrintMore
attribute [local go_sem] max2_int min2_int max_two min_two max_three min_three max_four min_four
set_option linter.unusedVariables false
set_option linter.unusedSimpArgs false

set_option maxHeartbeats 40000000 in
set_option maxRecDepth 1000000 in
theorem laws_FnPagesNumbered.p11 (nx : laws_FnPagesNumbered.P27) : laws_FnPagesNumbered.P11 := by
 unfold laws_FnPagesNumbered.P11
 intro A1 c1 l1 w HE HG HR1 HC1 kq wc HA HB _ _ _ _ _ _ _ _ _ _ _ _ _ _ _ _ _ _ _ _ _ _ _ _ _ _ _ _ _ _ _ _ _ _ _ _ _ _ _ _ _ _ _ _ _ _ _ _ _ _ _ _ _ _ _ _ _ _ _ _ _ _ _ _ _ _ _ _ _ _ _ _ _ _ _ _ _ _ _ _ _ _ _ _ _ _ _ _ _ _ _ _ _ _ _ _ _ _ _ _ _ _ _ _ _ _ _ _ _ _ _ _ _ _ _ _ _ _ _ _ _ _ _ _ _ _ _ _ _ _ _ _ _ _ _ _ _ _ _ _ _ _ _ _ _ _ _ _ _ _ _ _ _ _ _ _ _ _ _ _ _ _ _ _ _ _ _ _ _ _ _ _ _ _ _ _ _ _ _ _ _ _ _ _ _ _ _ _ _ _ _ _ _ _ _ _ _ _ _ _ _ _ _ _ _ _ _ _ _ _ _ _ _ _ _ _ _ _ _ _ _ _ _ _ _ _ _ _ _ _ _ _ _ _ _ _ _ _ _ _ _ _ _ _ _ _ _ _ _ _ _ _ _ _ _ _ _ _ _ _ _ _ _ _ _ _ _ _ _ _ _ _ _ _ _ _ _ _ _ _ _ _ _ _ _ _ _ _ _ _ _ _ _ _ _ _ _ _ _ _ _ _ _ _ _ _ _ _ _ _ _ _ _ _ _ _ _ _ _ _ _ _ _ _ _ _ _ _ _ _ _ _ _ _ _ _ _ _ _ _ _ _ _ _ _ _ _ _ _ _ _ _ _ _ _ _ _ _ _ _ _ _ _ _ _ _ _ _ _ _ _ _ _ _ _ _ _ _ _ _ _ _ _ _ _ _ _ _ _ _ _ _ _ _ _ _ _ _ _ _ _ _ _ _ _ _ _ _ _ _ _ _ _ _ _ _ _ _ _ _ _ _ _ _ _ _ _ _ _ _ _ _ _ _ _ _ _ _ _ _ _ _ _ _ _ _ _ _ _ _ _ _ _ _ Q' K1 a1
 conv at a1 => intro a w; lhs; arg 2; whnf
 try dsimp only
 cases kq with
 | zero => exact absurd HA.out (by simp [laws_FnPagesNumbered.j4])
 | succ kj38 =>
  have H := HA.out
  clear HA
  simp only [laws_FnPagesNumbered.j4] at H
  replace H := Xs.mp H
  obtain ⟨⟨t416, t417⟩, A500, H⟩ := H
  (try dsimp only at H)
  have A50 := Aside0.mk A500
  clear A500
  replace H := Xs.mp H
  obtain ⟨⟨t418, t419⟩, A510, H⟩ := H
  (try dsimp only at H)
  have A51 := Aside0.mk A510
  clear A510
  replace H := Xs.mp H
  obtain ⟨⟨t420, t421⟩, A520, H⟩ := H
  (try dsimp only at H)
  have A52 := Aside0.mk A520
  clear A520
  replace H := Xs.mp H
  obtain ⟨t422, A530, H⟩ := H
  (try dsimp only at H)
  have A53 := Aside0.mk A530
  clear A530
  replace H := Xs.mp H
  obtain ⟨⟨t423, t424, t425⟩, A540, H⟩ := H
  (try dsimp only at H)
  have A54 := Aside0.mk A540
  clear A540
  replace H := Xs.mp H
  obtain ⟨⟨t426, t427, t428⟩, A550, H⟩ := H
  (try dsimp only at H)
  have A55 := Aside0.mk A550
  clear A550
  replace H := Xs.mp H
  obtain ⟨t429, A560, H⟩ := H
  (try dsimp only at H)
  have A56 := Aside0.mk A560
  clear A560
  replace H := Xs.mp H
  obtain ⟨⟨t430, t431⟩, A570, H⟩ := H
  (try dsimp only at H)
  have A57 := Aside0.mk A570
  clear A570
  replace H := Xs.mp H
  obtain ⟨⟨t432, t433⟩, A580, H⟩ := H
  (try dsimp only at H)
  have A58 := Aside0.mk A580
  clear A580
  replace H := Xs.mp H
  obtain ⟨t434, A590, H⟩ := H
  (try dsimp only at H)
  have A59 := Aside0.mk A590
  clear A590
  replace H := Xs.mp H
  obtain ⟨⟨t437, t438⟩, A600, H⟩ := H
  (try dsimp only at H)
  have A60 := Aside0.mk A600
  clear A600
  replace H := Xs.mp H
  obtain ⟨⟨t439, t440⟩, A610, H⟩ := H
  (try dsimp only at H)
  have A61 := Aside0.mk A610
  clear A610
  replace H := Xs.mp H
  obtain ⟨t441, A620, H⟩ := H
  (try dsimp only at H)
  have A62 := Aside0.mk A620
  clear A620
  replace H := Xs.mp H
  obtain ⟨⟨t442, t443⟩, A630, H⟩ := H
  (try dsimp only at H)
  have A63 := Aside0.mk A630
  clear A630
  replace H := Xs.mp H
  obtain ⟨⟨t446, t447⟩, A640, H⟩ := H
  (try dsimp only at H)
  have A64 := Aside0.mk A640
  clear A640
  have HC65 := Aside0.mk H
  clear H
  go_upto_region 46 with (first | ((with_reducible refine gate_callee (f := 14) rfl ?_); refine goesL_ (some 220) rfl rfl Tryz.func14 (by kernel_rfl) rfl #[.slice A1 l1.length c1] rfl (by (try simp only [Xp, Xq, Xr]); first | done | rfl) ?_; (with_reducible refine (spec_DrawPagesForTypes.calls _ _ l1 t416 t417 _ ?side1 ?side2 A50.out).mono ?_); (case side1 => repeat (first | exact (Kd.C_below HR1.out HB.out) | (with_reducible refine Xj ?_ _) | (with_reducible refine Xk ?_ _) | (with_reducible refine Xl ?_))); (case side2 => exact HC1.out); rintro e w66 ⟨rfl, hb⟩; refine ⟨_, rfl, ?_⟩; replace HB := Aside0.mk (Xd (by repeat (with_reducible first | exact HB.out | apply Xc | apply Xa | apply Xb)) hb); (try clear hb)) | ((with_reducible refine gate_callee (f := 13) rfl ?_); refine goesL_ (some 226) rfl rfl Tryz.func13 (by kernel_rfl) rfl #[.int .i64 t416, .int .i64 t417] rfl (by (try simp only [Xp, Xq, Xr]); first | done | rfl) ?_; (with_reducible refine (impl_PagesForTypes.calls kj38 t416 t417 t418 t419 _ (by exact strconv_Itoa.tab HG.out (by repeat (with_reducible first | exact HB.out | apply Xc | apply Xa | apply Xb))) A51.out).mono ?_); rintro e w67 ⟨rfl, hb⟩; refine ⟨_, rfl, ?_⟩; replace HB := Aside0.mk (Xd (by repeat (with_reducible first | exact HB.out | apply Xc | apply Xa | apply Xb)) hb); (try clear hb)) | ((with_reducible refine gate_callee (f := 15) rfl ?_); refine goesL_ (some 232) rfl rfl Tryz.func15 (by kernel_rfl) rfl #[.int .i64 t416, .int .i64 t417] rfl (by (try simp only [Xp, Xq, Xr]); first | done | rfl) ?_; (with_reducible refine (spec_PagesForTypes.calls kj38 t416 t417 t420 t421 _ A52.out).mono ?_); rintro e w' ⟨rfl, ⟨nd, rfl⟩⟩; refine ⟨_, rfl, ?_⟩) | ((with_reducible refine gate_callee (f := 16) rfl ?_); refine goesL_ (some 236) rfl rfl Tryz.func16 (by kernel_rfl) rfl #[.slice A1 l1.length c1] rfl (by (try simp only [Xp, Xq, Xr]); first | done | rfl) ?_; (with_reducible refine (spec_DrawDigitAtPlace.calls _ _ l1 t422 _ ?side1 ?side2 A53.out).mono ?_); (case side1 => repeat (first | exact (Kd.C_below HR1.out (by repeat (with_reducible first | exact HB.out | apply Xc | apply Xa | apply Xb))) | (with_reducible refine Xj ?_ _) | (with_reducible refine Xk ?_ _) | (with_reducible refine Xl ?_))); (case side2 => exact HC1.out); rintro e w68 ⟨rfl, hb⟩; refine ⟨_, rfl, ?_⟩; replace HB := Aside0.mk (Xd (by repeat (with_reducible first | exact HB.out | apply Xc | apply Xa | apply Xb)) hb); (try clear hb)) | ((with_reducible refine gate_callee (f := 17) rfl ?_); refine goesL_ (some 239) rfl rfl Tryz.func17 (by kernel_rfl) rfl #[.int .i64 t422] rfl (by (try simp only [Xp, Xq, Xr]); first | done | rfl) ?_; (with_reducible refine (impl_DigitAtPlace.calls kj38 t422 t423 t424 t425 _ (by exact strconv_Itoa.tab HG.out (by repeat (with_reducible first | exact HB.out | apply Xc | apply Xa | apply Xb))) A54.out).mono ?_); rintro e w69 ⟨rfl, hb⟩; refine ⟨_, rfl, ?_⟩; replace HB := Aside0.mk (Xd (by repeat (with_reducible first | exact HB.out | apply Xc | apply Xa | apply Xb)) hb); (try clear hb)) | ((with_reducible refine gate_callee (f := 18) rfl ?_); refine goesL_ (some 245) rfl rfl Tryz.func18 (by kernel_rfl) rfl #[.int .i64 t422] rfl (by (try simp only [Xp, Xq, Xr]); first | done | rfl) ?_; (with_reducible refine (spec_DigitAtPlace.calls kj38 t422 t426 t427 t428 _ A55.out).mono ?_); rintro e w70 ⟨rfl, hb⟩; refine ⟨_, rfl, ?_⟩; replace HB := Aside0.mk (Xd (by repeat (with_reducible first | exact HB.out | apply Xc | apply Xa | apply Xb)) hb); (try clear hb)) | ((with_reducible refine gate_callee (f := 19) rfl ?_); refine goesL_ (some 250) rfl rfl Tryz.func19 (by kernel_rfl) rfl #[.slice A1 l1.length c1] rfl (by (try simp only [Xp, Xq, Xr]); first | done | rfl) ?_; (with_reducible refine (spec_DrawPagesForDigits.calls _ _ l1 t429 _ ?side1 ?side2 A56.out).mono ?_); (case side1 => repeat (first | exact (Kd.C_below HR1.out HB.out) | (with_reducible refine Xj ?_ _) | (with_reducible refine Xk ?_ _) | (with_reducible refine Xl ?_))); (case side2 => exact HC1.out); rintro e w71 ⟨rfl, hb⟩; refine ⟨_, rfl, ?_⟩; replace HB := Aside0.mk (Xd (by repeat (with_reducible first | exact HB.out | apply Xc | apply Xa | apply Xb)) hb); (try clear hb)) | ((with_reducible refine gate_callee (f := 12) rfl ?_); refine goesL_ (some 253) rfl rfl Tryz.func12 (by kernel_rfl) rfl #[.int .i64 t429] rfl (by (try simp only [Xp, Xq, Xr]); first | done | rfl) ?_; (with_reducible refine (impl_PagesForDigits.calls kj38 t429 t430 t431 _ (by exact strconv_Itoa.tab HG.out (by repeat (with_reducible first | exact HB.out | apply Xc | apply Xa | apply Xb))) A57.out).mono ?_); rintro e w72 ⟨rfl, hb⟩; refine ⟨_, rfl, ?_⟩; replace HB := Aside0.mk (Xd (by repeat (with_reducible first | exact HB.out | apply Xc | apply Xa | apply Xb)) hb); (try clear hb)) | ((with_reducible refine gate_callee (f := 20) rfl ?_); refine goesL_ (some 258) rfl rfl Tryz.func20 (by kernel_rfl) rfl #[.int .i64 t429] rfl (by (try simp only [Xp, Xq, Xr]); first | done | rfl) ?_; (with_reducible refine (spec_PagesForDigits.calls kj38 t429 t432 t433 _ A58.out).mono ?_); rintro e w73 ⟨rfl, hb⟩; refine ⟨_, rfl, ?_⟩; replace HB := Aside0.mk (Xd (by repeat (with_reducible first | exact HB.out | apply Xc | apply Xa | apply Xb)) hb); (try clear hb)) | ((with_reducible refine gate_callee (f := 21) rfl ?_); refine goesL_ (some 262) rfl rfl Tryz.func21 (by kernel_rfl) rfl #[.slice A1 l1.length c1] rfl (by (try simp only [Xp, Xq, Xr]); first | done | rfl) ?_; (with_reducible refine (spec_DrawPagesText.calls kj38 _ _ l1 t434 _ ?side1 ?side2 A59.out).mono ?_); (case side1 => repeat (first | exact (Kd.C_below HR1.out HB.out) | (with_reducible refine Xj ?_ _) | (with_reducible refine Xk ?_ _) | (with_reducible refine Xl ?_))); (case side2 => exact HC1.out); rintro e w74 ⟨v435, rfl, ho0, hb⟩; refine ⟨_, rfl, ?_⟩; replace HO436 := Aside0.mk (Kd.R_lower ho0 (Xf (by repeat (with_reducible first | exact HB.out | apply Xc | apply Xa | apply Xb)))); replace HB := Aside0.mk (Xd (by repeat (with_reducible first | exact HB.out | apply Xc | apply Xa | apply Xb)) hb); (try clear hb); (try clear ho0); obtain ⟨Ao75, co75, eo75⟩ := Kd.R_slice HO436.out; subst eo75) | ((with_reducible refine gate_callee (f := 22) rfl ?_); refine goesL_ (some 265) rfl rfl Tryz.func22 (by kernel_rfl) rfl #[.slice Ao75 t434.length co75] rfl (by (try simp only [Xp, Xq, Xr]); first | done | rfl) ?_; (with_reducible refine (impl_PagesText.calls kj38 _ _ t434 t437 t438 _ ?side1 ?side2 (by exact strconv_Itoa.tab HG.out (by repeat (with_reducible first | exact HB.out | apply Xc | apply Xa | apply Xb))) A60.out).mono ?_); (case side1 => repeat (first | exact (Kd.R_reads' HO436.out).2.2 | (with_reducible refine Xj ?_ _) | (with_reducible refine Xk ?_ _) | (with_reducible refine Xl ?_))); (case side2 => exact (Kd.R_reads' HO436.out).2.1); rintro e w76 ⟨rfl, hb⟩; refine ⟨_, rfl, ?_⟩; replace HO436 := Aside0.mk (Xx (by (with_reducible repeat (first | apply Xg | apply Xh | apply Xi)); exact HO436.out) hb); replace HB := Aside0.mk (Xd (by repeat (with_reducible first | exact HB.out | apply Xc | apply Xa | apply Xb)) hb); (try clear hb)) | ((with_reducible refine gate_callee (f := 23) rfl ?_); refine goesL_ (some 270) rfl rfl Tryz.func23 (by kernel_rfl) rfl #[.slice Ao75 t434.length co75] rfl (by (try simp only [Xp, Xq, Xr]); first | done | rfl) ?_; (with_reducible refine (spec_PagesText.calls kj38 _ _ t434 t439 t440 _ ?side1 ?side2 A61.out).mono ?_); (case side1 => repeat (first | exact (Kd.R_reads' HO436.out).2.2 | (with_reducible refine Xj ?_ _) | (with_reducible refine Xk ?_ _) | (with_reducible refine Xl ?_))); (case side2 => exact (Kd.R_reads' HO436.out).2.1); rintro e w77 ⟨rfl, hb⟩; refine ⟨_, rfl, ?_⟩; replace HO436 := Aside0.mk (Xx (by (with_reducible repeat (first | apply Xg | apply Xh | apply Xi)); exact HO436.out) hb); replace HB := Aside0.mk (Xd (by repeat (with_reducible first | exact HB.out | apply Xc | apply Xa | apply Xb)) hb); (try clear hb)) | ((with_reducible refine gate_callee (f := 24) rfl ?_); refine goesL_ (some 274) rfl rfl Tryz.func24 (by kernel_rfl) rfl #[.slice A1 l1.length c1] rfl (by (try simp only [Xp, Xq, Xr]); first | done | rfl) ?_; (with_reducible refine (spec_DrawParsePages.calls kj38 _ _ l1 t441 _ ?side1 ?side2 A62.out).mono ?_); (case side1 => repeat (first | exact (Kd.C_below HR1.out HB.out) | (with_reducible refine Xj ?_ _) | (with_reducible refine Xk ?_ _) | (with_reducible refine Xl ?_))); (case side2 => exact HC1.out); rintro e w78 ⟨rfl, hb⟩; refine ⟨_, rfl, ?_⟩; replace HO436 := Aside0.mk (Xx (by (with_reducible repeat (first | apply Xg | apply Xh | apply Xi)); exact HO436.out) hb); replace HB := Aside0.mk (Xd (by repeat (with_reducible first | exact HB.out | apply Xc | apply Xa | apply Xb)) hb); (try clear hb)) | ((with_reducible refine gate_callee (f := 25) rfl ?_); refine goesL_ (some 277) rfl rfl Tryz.func25 (by kernel_rfl) rfl #[.string t441] rfl (by (try simp only [Xp, Xq, Xr]); first | done | rfl) ?_; (with_reducible refine (impl_ParsePages.calls kj38 t441 t442 t443 _ (by exact strconv_Itoa.tab HG.out (by repeat (with_reducible first | exact HB.out | apply Xc | apply Xa | apply Xb))) (by exact LibVars.below HE.out (by repeat (with_reducible first | exact HB.out | apply Xc | apply Xa | apply Xb))) A63.out).mono ?_); rintro e w79 ⟨v444, rfl, ho0, hb⟩; refine ⟨_, rfl, ?_⟩; replace HO445 := Aside0.mk (Kd.R_lower (Kd.R_new' ho0 (Kd.R_lt (by (with_reducible repeat (first | apply Xg | apply Xh | apply Xi)); exact HO436.out))) (Xf (by repeat (with_reducible first | exact HB.out | apply Xc | apply Xa | apply Xb)))); replace HO436 := Aside0.mk (Xy (by (with_reducible repeat (first | apply Xg | apply Xh | apply Xi)); exact HO436.out) (Kd.R_base ho0) hb); replace HB := Aside0.mk (Xd (by repeat (with_reducible first | exact HB.out | apply Xc | apply Xa | apply Xb)) hb); (try clear hb); (try clear ho0)) | ((with_reducible refine gate_callee (f := 26) rfl ?_); refine goesL_ (some 282) rfl rfl Tryz.func26 (by kernel_rfl) rfl #[.string t441] rfl (by (try simp only [Xp, Xq, Xr]); first | done | rfl) ?_; (with_reducible refine (spec_ParsePages.calls kj38 t441 t446 t447 _ A64.out).mono ?_); rintro e w80 ⟨v448, rfl, ho0, hb⟩; refine ⟨_, rfl, ?_⟩; replace HO449 := Aside0.mk (Kd.R_lower (Kd.R_new' (Kd.R_new' ho0 (Kd.R_lt (by (with_reducible repeat (first | apply Xg | apply Xh | apply Xi)); exact HO436.out))) (Kd.R_lt (by (with_reducible repeat (first | apply Xg | apply Xh | apply Xi)); exact HO445.out))) (Xf (by repeat (with_reducible first | exact HB.out | apply Xc | apply Xa | apply Xb)))); replace HO436 := Aside0.mk (Xy (by (with_reducible repeat (first | apply Xg | apply Xh | apply Xi)); exact HO436.out) (Kd.R_base ho0) hb); replace HO445 := Aside0.mk (Xy (by (with_reducible repeat (first | apply Xg | apply Xh | apply Xi)); exact HO445.out) (Kd.R_base ho0) hb); replace HB := Aside0.mk (Xd (by repeat (with_reducible first | exact HB.out | apply Xc | apply Xa | apply Xb)) hb); (try clear hb); (try clear ho0)))
  (try simp only [Act.put, Xm, Xn, Xo])
  go_cut [338] from 203 to 338 (fun v338 wc => ∃ (kq : Nat) (x338_64 : Bool), v338 = .bool x338_64 ∧ Aside0 (laws_FnPagesNumbered.j5 kq t416 t417 t418 t419 t422 t423 t424 t425 t429 t430 t431 t434 t437 t438 t441 t442 t443 x338_64 = some true) ∧ Aside0 (kq ≤ kj38) ∧ Aside0 (Kd.R (Kd.int .i64) 3 wc w.heap.size (fun k_ => some k_ ≠ (v444 : Value).ownBlock) (.slice Ao75 t434.length co75) t434) ∧ Aside0 (Kd.R (Kd.int .i64) 3 wc w.heap.size (fun k_ => some k_ ≠ ((.slice Ao75 t434.length co75) : Value).ownBlock) v444 t442) ∧ Aside0 (Below w.heap.size w wc))
  case first =>
   try clear A3; try clear A5; try clear A6; try clear A7; try clear A8; try clear A9; try clear A10; try clear A11; try clear A29; try clear A32; try clear A46; try clear A50; try clear A51; try clear A52; try clear A53; try clear A54; try clear A55; try clear A56; try clear A57; try clear A58; try clear A59; try clear A60; try clear A61; try clear A62; try clear A63; try clear A64
   (try simp only [List.append_eq, List.cons_append, List.nil_append])
   have H := HC65.out
   clear HC65
   by_cases c81 : (t419 != t421) = true
   ·rw [if_pos c81] at H
    have c81b0 : (t419 != t421) = true := c81
    (try (have c81b1 : decide (t419 = t421) = false := by simpa using c81))
    (try (have c81b2 : (t419 == t421) = false := by simpa using c81))
    (try (have c81b3 : ¬ (t419 = t421) := by simpa using c81))
    clear c81
    (first | rw [c81b0] | (simp only [i64_w, i32_w]; rw [c81b0]) | skip)
    exact absurd H laws_FnPagesNumbered.j5_dead
   ·rw [if_neg c81] at H
    have c81b0 : t419 = t421 := by simpa using c81
    clear c81
    subst c81b0
    by_cases c82 : t418 = t420
    ·rw [if_pos c82] at H
     subst c82
     by_cases c83 : (t425 != t428) = true
     ·rw [if_pos c83] at H
      have c83b0 : (t425 != t428) = true := c83
      (try (have c83b1 : decide (t425 = t428) = false := by simpa using c83))
      (try (have c83b2 : (t425 == t428) = false := by simpa using c83))
      (try (have c83b3 : ¬ (t425 = t428) := by simpa using c83))
      clear c83
      exact absurd H laws_FnPagesNumbered.j5_dead
     ·rw [if_neg c83] at H
      have c83b0 : t425 = t428 := by simpa using c83
      clear c83
      subst c83b0
      by_cases c84 : t423 = t426
      ·rw [if_pos c84] at H
       subst c84
       by_cases c85 : t424 = t427
       ·rw [if_pos c85] at H
        subst c85
        by_cases c86 : (t431 != t433) = true
        ·rw [if_pos c86] at H
         have c86b0 : (t431 != t433) = true := c86
         (try (have c86b1 : decide (t431 = t433) = false := by simpa using c86))
         (try (have c86b2 : (t431 == t433) = false := by simpa using c86))
         (try (have c86b3 : ¬ (t431 = t433) := by simpa using c86))
         clear c86
         exact absurd H laws_FnPagesNumbered.j5_dead
        ·rw [if_neg c86] at H
         have c86b0 : t431 = t433 := by simpa using c86
         clear c86
         subst c86b0
         by_cases c87 : t430 = t432
         ·rw [if_pos c87] at H
          subst c87
          by_cases c88 : (t438 != t440) = true
          ·rw [if_pos c88] at H
           have c88b0 : (t438 != t440) = true := c88
           (try (have c88b1 : decide (t438 = t440) = false := by simpa using c88))
           (try (have c88b2 : (t438 == t440) = false := by simpa using c88))
           (try (have c88b3 : ¬ (t438 = t440) := by simpa using c88))
           clear c88
           exact absurd H laws_FnPagesNumbered.j5_dead
          ·rw [if_neg c88] at H
           have c88b0 : t438 = t440 := by simpa using c88
           clear c88
           subst c88b0
           by_cases c89 : t437.toList = t439.toList
           ·rw [if_pos c89] at H
            have c89b0 : (t437.toList == t439.toList) = true := beq_iff_eq.mpr c89
            have c89b1 : (t437.toList != t439.toList) = false := bne_eq_false_iff_eq.mpr c89
            clear c89
            by_cases c90 : (t443 != t447) = true
            ·rw [if_pos c90] at H
             have c90b0 : (t443 != t447) = true := c90
             (try (have c90b1 : decide (t443 = t447) = false := by simpa using c90))
             (try (have c90b2 : (t443 == t447) = false := by simpa using c90))
             (try (have c90b3 : ¬ (t443 = t447) := by simpa using c90))
             clear c90
             exact absurd H laws_FnPagesNumbered.j5_dead
            ·rw [if_neg c90] at H
             have c90b0 : t443 = t447 := by simpa using c90
             clear c90
             subst c90b0
             replace H := Xs.mp H
             obtain ⟨t450, A910, H⟩ := H
             (try dsimp only at H)
             have A91 := Aside0.mk A910
             clear A910
             have H' := Aside0.mk H
             clear H
             obtain ⟨Ao92, co92, eo92⟩ := Kd.R_slice HO445.out
             subst eo92
             obtain ⟨Ao93, co93, eo93⟩ := Kd.R_slice HO449.out
             subst eo93
             go_wp2_with (first | (go_at_call 27; (with_reducible refine (laws_xSame.calls kj38 _ _ t442 _ _ t446 t450 _ ?side1 ?side2 ?side3 ?side4 A91.out).mono ?_); (case side1 => repeat (first | exact (Kd.R_reads' HO445.out).2.2 | (with_reducible refine Xj ?_ _) | (with_reducible refine Xk ?_ _) | (with_reducible refine Xl ?_))); (case side2 => exact (Kd.R_reads' HO445.out).2.1); (case side3 => repeat (first | exact (Kd.R_reads' HO449.out).2.2 | (with_reducible refine Xj ?_ _) | (with_reducible refine Xk ?_ _) | (with_reducible refine Xl ?_))); (case side4 => exact (Kd.R_reads' HO449.out).2.1); rintro e w' ⟨rfl, ⟨nd, rfl⟩⟩))
             go_meet
             case rel => exact ⟨_, (!t450), (by first | rfl | simp | simp [*]), H', ⟨by first | omega | exact Nat.le_refl _⟩, ⟨by (with_reducible repeat (first | apply Xg | apply Xh | apply Xi)); exact Kd.R_mono HO436.out (fun _ hk => hk.1.2)⟩, ⟨by (with_reducible repeat (first | apply Xg | apply Xh | apply Xi)); exact Kd.R_mono HO445.out (fun _ hk => hk.1.2)⟩, ⟨by repeat (with_reducible first | exact HB.out | apply Xc | apply Xa | apply Xb)⟩⟩
           ·rw [if_neg c89] at H
            have c89b0 : (t437.toList == t439.toList) = false := beq_eq_false_iff_ne.mpr c89
            have c89b1 : (t437.toList != t439.toList) = true := bne_iff_ne.mpr c89
            exact absurd H laws_FnPagesNumbered.j5_dead
         ·rw [if_neg c87] at H
          have c87b0 : (t430 == t432) = false := beq_eq_false_iff_ne.mpr c87
          have c87b1 : (t430 != t432) = true := bne_iff_ne.mpr c87
          exact absurd H laws_FnPagesNumbered.j5_dead
       ·rw [if_neg c85] at H
        have c85b0 : (t424 == t427) = false := beq_eq_false_iff_ne.mpr c85
        have c85b1 : (t424 != t427) = true := bne_iff_ne.mpr c85
        exact absurd H laws_FnPagesNumbered.j5_dead
      ·rw [if_neg c84] at H
       have c84b0 : (t423 == t426) = false := beq_eq_false_iff_ne.mpr c84
       have c84b1 : (t423 != t426) = true := bne_iff_ne.mpr c84
       exact absurd H laws_FnPagesNumbered.j5_dead
    ·rw [if_neg c82] at H
     have c82b0 : (t418 == t420) = false := beq_eq_false_iff_ne.mpr c82
     have c82b1 : (t418 != t420) = true := bne_iff_ne.mpr c82
     exact absurd H laws_FnPagesNumbered.j5_dead
  case rest =>
   clear HC65
   try clear p2; try clear p6; try clear c10; try clear c11; try clear c12; try clear c13; try clear c14; try clear c15; try clear c16; try clear c17; try clear c18; try clear c18b0; try clear c18b1; try clear c18b2; try clear c19; try clear c19b0; try clear c19b1; try clear c20; try clear c20b0; try clear c20b1; try clear c20b2; try clear c21; try clear c21b0; try clear c21b1; try clear c22; try clear c22b0; try clear c22b1; try clear c22b2; try clear c23; try clear c23b0; try clear c23b1; try clear c24; try clear c24b0; try clear c24b1; try clear c24b2; try clear c25; try clear c26; try clear c28; try clear c31; try clear c31b0; try clear c33; try clear c35; try clear c36; try clear c36b0; try clear c36b1; try clear c37; try clear c37b0; try clear c37b1; try clear c38; try clear c38b0; try clear c40; try clear c42; try clear c42b0; try clear c43; try clear c43b0; try clear c44; try clear c45; try clear c45b0; try clear c47; try clear c48; try clear c48b0; try clear c81; try clear c81b0; try clear c81b1; try clear c81b2; try clear c82; try clear c82b0; try clear c82b1; try clear c83; try clear c83b0; try clear c83b1; try clear c83b2; try clear c84; try clear c84b0; try clear c84b1; try clear c85; try clear c85b0; try clear c85b1; try clear c86; try clear c86b0; try clear c86b1; try clear c86b2; try clear c87; try clear c87b0; try clear c87b1; try clear c88; try clear c88b0; try clear c88b1; try clear c88b2; try clear c89; try clear c89b0; try clear c89b1; try clear c90; try clear c90b0; try clear c90b1; try clear c90b2; try clear p2; try clear p6
   obtain ⟨kq, x338_64, rfl, HA, HJ64, HO_45, HO_51, HB⟩ := hcut
   rename_i K1 a1 K0 a0
   exact nx l1 w HE HG t416 t417 t418 t419 t422 t423 t424 t425 t429 t430 t431 t434 t437 t438 t441 t442 t443 v444 Ao75 co75 kq x338_64 wc HA HO_45 HO_51 HB _ _ _ _ _ _ _ _ _ _ _ _ _ _ _ _ _ _ _ _ _ _ _ _ _ _ _ _ _ _ _ _ _ _ _ _ _ _ _ _ _ _ _ _ _ _ _ _ _ _ _ _ _ _ _ _ _ _ _ _ _ _ _ _ _ _ _ _ _ _ _ _ _ _ _ _ _ _ _ _ _ _ _ _ _ _ _ _ _ _ _ _ _ _ _ _ _ _ _ _ _ _ _ _ _ _ _ _ _ _ _ _ _ _ _ _ _ _ _ _ _ _ _ _ _ _ _ _ _ _ _ _ _ _ _ _ _ _ _ _ _ _ _ _ _ _ _ _ _ _ _ _ _ _ _ _ _ _ _ _ _ _ _ _ _ _ _ _ _ _ _ _ _ _ _ _ _ _ _ _ _ _ _ _ _ _ _ _ _ _ _ _ _ _ _ _ _ _ _ _ _ _ _ _ _ _ _ _ _ _ _ _ _ _ _ _ _ _ _ _ _ _ _ _ _ _ _ _ _ _ _ _ _ _ _ _ _ _ _ _ _ _ _ _ _ _ _ _ _ _ _ _ _ _ _ _ _ _ _ _ _ _ _ _ _ _ _ _ _ _ _ _ _ _ _ _ _ _ _ _ _ _ _ _ _ _ _ _ _ _ _ _ _ _ _ _ _ _ _ _ _ _ _ _ _ _ _ _ _ _ _ _ _ _ _ _ _ _ _ _ _ _ _ _ _ _ _ _ _ _ _ _ _ _ _ _ _ _ _ _ _ _ _ _ _ _ _ _ _ _ _ _ _ _ _ _ _ _ _ _ _ _ _ _ _ _ _ _ _ _ _ _ _ _ _ _ _ _ _ _ _ _ _ _ _ _ _ _ _ _ _ _ _ _ _ _ _ _ _ _ _ _ _ _ _ _ _ _ _ _ _ _ _ _ _ _ _ _ _ _ _ _ _ _ _ _ _ _ _ _ _ _ _ _ _ _ _ K1 a1 K0 a0

end Go.Proofs.YtjkfgeigicljpaaGreatDoor.PFnPagesNumbered
