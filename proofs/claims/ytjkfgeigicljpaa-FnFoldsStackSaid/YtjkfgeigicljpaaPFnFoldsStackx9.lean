-- WRITTEN BY A PROGRAM OF THIS SESSION (xprint), out of the translation: not trusted: it is checked as any text
import Derived.Test.YtjkfgeigicljpaaPFnFoldsStackx8
namespace Go.Proofs.Ytjkfgeigicljpaa.PFnFoldsStack
open Go.RowKit Go.Proofs.YtjkfgeigicljpaaW.PrintWords Go.Proofs.YtjkfgeigicljpaaW.PrintLast Go.Proofs.YtjkfgeigicljpaaW.PrintMore
attribute [local go_sem] max2_int min2_int max_two min_two max_three min_three max_four min_four   -- for this text's walks alone
set_option linter.unusedVariables false
set_option linter.unusedSimpArgs false

set_option maxHeartbeats 40000000 in
set_option maxRecDepth 1000000 in
theorem laws_FnFoldsStack.p32 : laws_FnFoldsStack.P32 := by
 unfold laws_FnFoldsStack.P32
 intro w t404 t405 t406 t407 t414 t418 t419 v408 kq wc HA HO_53 HB _ _ _ _ _ _ _ _ _ _ _ _ _ _ _ _ _ _ _ _ _ _ _ _ _ _ _ _ _ _ _ _ _ _ _ _ _ _ _ _ _ _ _ _ _ _ _ _ _ _ _ _ _ _ _ _ _ _ _ _ _ _ _ _ _ _ _ _ _ _ _ _ _ _ _ _ _ _ _ _ _ _ _ _ _ _ _ _ _ _ _ _ _ _ _ _ _ _ _ _ _ _ _ _ _ _ _ _ _ _ _ _ _ _ _ _ _ _ _ _ _ _ _ _ _ _ _ _ _ _ _ _ _ _ _ _ _ _ _ _ _ _ _ _ _ _ _ _ _ _ _ _ _ _ _ _ _ _ _ _ _ _ _ _ _ _ _ _ _ _ _ _ _ _ _ _ _ _ _ _ _ _ _ _ _ _ _ _ _ _ _ _ _ _ _ _ _ _ _ _ _ _ _ _ _ _ _ _ _ _ _ _ _ _ _ _ _ _ _ _ _ _ _ _ _ _ _ _ _ _ _ _ _ _ _ _ _ _ _ _ _ _ _ _ _ _ _ _ _ _ _ _ _ _ _ _ _ _ _ _ _ _ _ _ _ _ _ _ _ _ _ _ _ _ _ _ _ _ _ _ _ _ _ _ _ _ _ _ _ _ _ _ _ _ _ _ _ _ _ _ _ _ _ _ _ _ _ _ _ _ _ _ _ _ _ _ _ _ _ _ _ _ _ _ _ _ _ _ _ _ _ _ _ _ _ _ _ _ _ _ _ _ _ _ _ _ _ _ _ _ _ _ _ _ _ _ _ _ _ _ _ _ _ _ _ _ _ _ _ _ _ _ _ _ _ _ _ _ _ _ _ _ _ _ _ _ _ _ _ _ _ _ _ _ _ _ _ _ _ _ _ _ _ _ _ _ _ _ _ _ _ _ _ _ _ _ _ _ _ _ _ _ _ _ _ _ _ _ _ _ _ _ _ _ _ _ _ _ _ _ _ _ _ _ _ _ _ _ _ _ _ _ _ _ _ _ _ _ _ _ _ _ _ _ _ _ _ _ _ _ _ _ _ _ _ _ _ _ _ _ _ _ _ _ _ _ _ _ _ _ _ _ _ _ _ _ _ _ _ _ _ _ _ _ _ _ _ _ _ _ _ _ _ _ _ _ _ _ _ _ _ _ _ _ _ _ _ _ _ _ _ _ _ _ _ _ _ _ _ _ _ _ _ _ _ _ _ _ _ _ _ _ _ _ _ _ _ _ _ _ _ _ _ _ _ _ _ _ _ _ _ _ _ _ _ _ _ _ _ _ _ _ _ _ _ _ _ _ _ _ _ _ _ _ _ _ _ _ _ _ _ _ _ _ _ _ _ _ _ _ _ _ _ _ _ _ _ _ _ _ _ _ _ _ _ _ _ _ _ _ _ _ _ _ _ _ _ _ _ _ _ _ _ _ _ _ _ _ _ _ _ _ _ _ Q' K1 a1
 conv at a1 => intro a w; lhs; arg 2; whnf
 try dsimp only
 cases kq with
 | zero => exact absurd HA.out (by simp [laws_FnFoldsStack.j10])
 | succ kj218 =>
  have H := HA.out
  clear HA
  simp only [laws_FnFoldsStack.j10] at H
  by_cases c225 : t407 = true
  ·subst c225
   rw [if_pos rfl] at H
   have HC226 := Aside0.mk H
   clear H
   go_upto_region 67 with (fail)
   repeat (go_quiet (fail); go_upto_region 67 with (fail))
   go_cut [588] from 535 to 588 (fun v588 wc => ∃ (kq : Nat) (x588_225 : Bool), v588 = .bool x588_225 ∧ Aside0 (laws_FnFoldsStack.j11 kq t404 t405 t406 t418 t419 x588_225 = some true) ∧ Aside0 (kq ≤ kj218) ∧ Aside0 (Kd.R (Kd.int .i64) 3 wc w.heap.size (fun _ => True) v408 t406) ∧ Aside0 (Below w.heap.size w wc))
   case first =>
    try clear A3; try clear A5; try clear A6; try clear A7; try clear A8; try clear A9; try clear A10; try clear A11; try clear A12; try clear A13; try clear A14; try clear A15; try clear A29; try clear A34; try clear A135; try clear A162; try clear A163; try clear A164; try clear A165; try clear A166; try clear A167; try clear A168; try clear A169; try clear A170; try clear A171; try clear A172; try clear A173; try clear A174; try clear A187; try clear A214; try clear A221
    (try simp only [List.append_eq, List.cons_append, List.nil_append])
    have H := HC226.out
    clear HC226
    replace H := Option.bind_eq_some_iff.mp H
    obtain ⟨t430, A2270, H⟩ := H
    (try dsimp only at H)
    have A227 := Aside0.mk A2270
    clear A2270
    by_cases c228 : t430 = true
    ·subst c228
     rw [if_pos rfl] at H
     by_cases c229 : (t406.length : Int) > t414
     ·rw [if_pos c229] at H
      have c229b0 : decide (t414 < (t406.length : Int)) = true := decide_eq_true c229
      clear c229
      (first | rw [c229b0] | (simp only [i64_w, i32_w]; rw [c229b0]) | skip)
      exact absurd H laws_FnFoldsStack.j11_dead
     ·rw [if_neg c229] at H
      have c229b0 : decide (t414 < (t406.length : Int)) = false := decide_eq_false c229
      clear c229
      (first | rw [c229b0] | (simp only [i64_w, i32_w]; rw [c229b0]) | skip)
      by_cases c231 : (t406.length : Int) < (wrap64 (t414 - 1))
      ·rw [if_pos c231] at H
       have c231b0 : decide ((t406.length : Int) < (wrap64 (t414 - 1))) = true := decide_eq_true c231
       clear c231
       exact absurd H laws_FnFoldsStack.j11_dead
      ·rw [if_neg c231] at H
       have c231b0 : decide ((t406.length : Int) < (wrap64 (t414 - 1))) = false := decide_eq_false c231
       clear c231
       by_cases c233 : (wrap64 ((wrap64 (t414 * 4)) * t405)) < t404
       ·rw [if_pos c233] at H
        have c233b0 : decide ((wrap64 ((wrap64 (t414 * 4)) * t405)) < t404) = true := decide_eq_true c233
        clear c233
        exact absurd H laws_FnFoldsStack.j11_dead
       ·rw [if_neg c233] at H
        have c233b0 : decide ((wrap64 ((wrap64 (t414 * 4)) * t405)) < t404) = false := decide_eq_false c233
        clear c233
        have H' := Aside0.mk H
        clear H
        obtain ⟨Ao235, co235, eo235⟩ := Kd.R_slice HO_53.out
        subst eo235
        go_wp2_with (first | (go_at_call 32; (with_reducible refine (laws_fRises.calls kj218 _ _ t406 true _ ?side1 ?side2 A227.out).mono ?_); (case side1 => repeat (first | exact (Kd.R_reads' HO_53.out).2.2 | (with_reducible refine Kd.C_alloc ?_ _) | (with_reducible refine Kd.C_drewN ?_ _) | (with_reducible refine Kd.C_drew ?_))); (case side2 => exact (Kd.R_reads' HO_53.out).2.1); rintro e w' ⟨rfl, ⟨nd, rfl⟩⟩; (try first | exact ⟨rfl, _, World.drewN_drewN _ _ _⟩ | exact ⟨rfl, _, Eq.trans (World.drewN_drewN _ _ _) (congrArg (World.drewN _) (Nat.add_assoc _ _ _))⟩)))
        repeat (go_quiet (first | (go_at_call 32; (with_reducible refine (laws_fRises.calls kj218 _ _ t406 true _ ?side1 ?side2 A227.out).mono ?_); (case side1 => repeat (first | exact (Kd.R_reads' HO_53.out).2.2 | (with_reducible refine Kd.C_alloc ?_ _) | (with_reducible refine Kd.C_drewN ?_ _) | (with_reducible refine Kd.C_drew ?_))); (case side2 => exact (Kd.R_reads' HO_53.out).2.1); rintro e w' ⟨rfl, ⟨nd, rfl⟩⟩; (try first | exact ⟨rfl, _, World.drewN_drewN _ _ _⟩ | exact ⟨rfl, _, Eq.trans (World.drewN_drewN _ _ _) (congrArg (World.drewN _) (Nat.add_assoc _ _ _))⟩))); try go_wp2_with (first | (go_at_call 32; (with_reducible refine (laws_fRises.calls kj218 _ _ t406 true _ ?side1 ?side2 A227.out).mono ?_); (case side1 => repeat (first | exact (Kd.R_reads' HO_53.out).2.2 | (with_reducible refine Kd.C_alloc ?_ _) | (with_reducible refine Kd.C_drewN ?_ _) | (with_reducible refine Kd.C_drew ?_))); (case side2 => exact (Kd.R_reads' HO_53.out).2.1); rintro e w' ⟨rfl, ⟨nd, rfl⟩⟩; (try first | exact ⟨rfl, _, World.drewN_drewN _ _ _⟩ | exact ⟨rfl, _, Eq.trans (World.drewN_drewN _ _ _) (congrArg (World.drewN _) (Nat.add_assoc _ _ _))⟩))))
        go_meet
        case rel => exact ⟨_, (decide ((wrap64 ((wrap64 ((wrap64 (t414 - 1)) * 4)) * t405)) ≥ t404)), (by first | rfl | (simp; done) | (simp [*]; done)), H', ⟨by first | omega | exact Nat.le_refl _⟩, ⟨by (with_reducible repeat (first | apply Kd.R_alloc | apply Kd.R_drewN | apply Kd.R_drew)); exact HO_53.out⟩, ⟨by repeat (first | (with_reducible first | exact HB.out | apply below_alloc | apply pw_below_drewN | apply below_drew1) | exact HB.out)⟩⟩
    ·replace c228 := Bool.eq_false_iff.mpr c228
     subst c228
     rw [if_neg (show ¬ (false = true) by decide)] at H
     exact absurd H laws_FnFoldsStack.j11_dead
   case rest =>
    clear HC226
    try clear p1; try clear q1; try clear hx1; try clear p2; try clear p3; try clear q3; try clear hx3; try clear p6; try clear c10; try clear c11; try clear c12; try clear p12; try clear q12; try clear hx12; try clear c13; try clear p13; try clear q13; try clear hx13; try clear c14; try clear c15; try clear c16; try clear c18; try clear c19; try clear c21; try clear c22; try clear c23; try clear c26; try clear c26b0; try clear c26b1; try clear c26b2; try clear c27; try clear c27b0; try clear c27b1; try clear c28; try clear c28b0; try clear c28b1; try clear c28b2; try clear c30; try clear c31; try clear c31b0; try clear c31b1; try clear c31b2; try clear c35; try clear c36; try clear c36b0; try clear c36b1; try clear c36b2; try clear p38; try clear q38; try clear hx38; try clear c41; try clear c41b0; try clear c41b1; try clear c42; try clear c42b0; try clear c42b1; try clear c42b2; try clear c47; try clear c47b0; try clear c47b1; try clear c48; try clear c48b0; try clear c48b1; try clear c48b2; try clear c53; try clear c53b0; try clear c53b1; try clear c53b2; try clear c58; try clear c59; try clear c60; try clear p64; try clear c73; try clear c96; try clear c98; try clear c99; try clear c99b0; try clear c101; try clear c101b0; try clear c101b1; try clear c102; try clear c102b0; try clear c102b1; try clear c108; try clear c110; try clear c110b0; try clear c111; try clear c111b0; try clear c112; try clear c112b0; try clear c113; try clear c113b0; try clear c114; try clear c114b0; try clear c116; try clear c116b0; try clear c117; try clear c117b0; try clear c118; try clear c118b0; try clear c118b1; try clear c120; try clear c120b0; try clear c121; try clear c121b0; try clear c121b1; try clear c122; try clear c122b0; try clear c123; try clear c123b0; try clear p124; try clear q124; try clear hx124; try clear c125; try clear c125b0; try clear c125b1; try clear c126; try clear c126b0; try clear c127; try clear c127b0; try clear p128; try clear q128; try clear hx128; try clear c130; try clear c130b0; try clear c131; try clear c131b0; try clear p132; try clear q132; try clear hx132; try clear c133; try clear c133b0; try clear c133b1; try clear c134; try clear c134b0; try clear c136; try clear c138; try clear c138b0; try clear c138b1; try clear c139; try clear c139b0; try clear c139b1; try clear c140; try clear c140b0; try clear c140b1; try clear c143; try clear c145; try clear c145b0; try clear c146; try clear c146b0; try clear c147; try clear c147b0; try clear c147b1; try clear c149; try clear c149b0; try clear c150; try clear c150b0; try clear c154; try clear c156; try clear c158; try clear c158b0; try clear c158b1; try clear c159; try clear c159b0; try clear c159b1; try clear c160; try clear c160b0; try clear c160b1; try clear c161; try clear c181; try clear c181b0; try clear c181b1; try clear c181b2; try clear c182; try clear c182b0; try clear c182b1; try clear c183; try clear c183b0; try clear c183b1; try clear c184; try clear c184b0; try clear c184b1; try clear c184b2; try clear c185; try clear c185b0; try clear c185b1; try clear c186; try clear c186b0; try clear c186b1; try clear c186b2; try clear c188; try clear c189; try clear c189b0; try clear c189b1; try clear c189b2; try clear c192; try clear c192b0; try clear c192b1; try clear c193; try clear c193b0; try clear c193b1; try clear c193b2; try clear c196; try clear c196b0; try clear c196b1; try clear c197; try clear c197b0; try clear c197b1; try clear c198; try clear c198b0; try clear c198b1; try clear c198b2; try clear c211; try clear c213; try clear c215; try clear c216; try clear c216b0; try clear c216b1; try clear c217; try clear c217b0; try clear c218; try clear c218b0; try clear c220; try clear c222; try clear c223; try clear c223b0; try clear c223b1; try clear c224; try clear c224b0; try clear c224b1; try clear c225; try clear c228; try clear c229; try clear c229b0; try clear c231; try clear c231b0; try clear c233; try clear c233b0; try clear hx381_0; try clear hx382_0; try clear hx385_0; try clear hx386_0; try clear p1; try clear p12; try clear p124; try clear p128; try clear p13; try clear p132; try clear p2; try clear p3; try clear p38; try clear p381; try clear p382; try clear p385; try clear p386; try clear p6; try clear p64; try clear q1; try clear q12; try clear q124; try clear q128; try clear q13; try clear q132; try clear q3; try clear q38; try clear q381; try clear q382; try clear q385; try clear q386
    obtain ⟨kq, x588_225, rfl, HA, HJ225, HO_53, HB⟩ := hcut
    cases kq with
    | zero => exact absurd HA.out (by simp [laws_FnFoldsStack.j11])
    | succ kj225 =>
     have H := HA.out
     clear HA
     simp only [laws_FnFoldsStack.j11] at H
     by_cases c237 : x588_225 = true
     ·subst c237
      rw [if_pos rfl] at H
      exact absurd H (by simp)
     ·replace c237 := Bool.eq_false_iff.mpr c237
      subst c237
      rw [if_neg (show ¬ (false = true) by decide)] at H
      have H' := Aside0.mk H
      clear H
      obtain ⟨Ao238, co238, eo238⟩ := Kd.R_slice HO_53.out
      subst eo238
      go_wp2
      repeat (go_quiet (fail); try go_wp2)
      go_loopg [591] kj225 (fun kq v591 w' => ∃ (x591_9 : Int), v591 = .int .i64 x591_9 ∧ Aside0 (laws_FnFoldsStack.l3 kq t404 t405 t418 t419 t406 (t406.length : Int) x591_9 = some true) ∧ Aside0 (kq ≤ kj225) ∧ Aside0 (Kd.R (Kd.int .i64) 3 w' w.heap.size (fun _ => True) (.slice Ao238 t406.length co238) t406) ∧ Aside0 (Below w.heap.size w w'))
      case atStart => exact ⟨(0), (by first | rfl | (simp; done) | (simp [*]; done)), H', ⟨Nat.le_refl _⟩, ⟨by (with_reducible repeat (first | apply Kd.R_alloc | apply Kd.R_drewN | apply Kd.R_drew)); exact HO_53.out⟩, ⟨by repeat (first | (with_reducible first | exact HB.out | apply below_alloc | apply pw_below_drewN | apply below_drew1) | exact HB.out)⟩⟩
      case round =>
       clear H'
       try clear p1; try clear q1; try clear hx1; try clear p2; try clear p3; try clear q3; try clear hx3; try clear p6; try clear c10; try clear c11; try clear c12; try clear p12; try clear q12; try clear hx12; try clear c13; try clear p13; try clear q13; try clear hx13; try clear c14; try clear c15; try clear c16; try clear c18; try clear c19; try clear c21; try clear c22; try clear c23; try clear c26; try clear c26b0; try clear c26b1; try clear c26b2; try clear c27; try clear c27b0; try clear c27b1; try clear c28; try clear c28b0; try clear c28b1; try clear c28b2; try clear c30; try clear c31; try clear c31b0; try clear c31b1; try clear c31b2; try clear c35; try clear c36; try clear c36b0; try clear c36b1; try clear c36b2; try clear p38; try clear q38; try clear hx38; try clear c41; try clear c41b0; try clear c41b1; try clear c42; try clear c42b0; try clear c42b1; try clear c42b2; try clear c47; try clear c47b0; try clear c47b1; try clear c48; try clear c48b0; try clear c48b1; try clear c48b2; try clear c53; try clear c53b0; try clear c53b1; try clear c53b2; try clear c58; try clear c59; try clear c60; try clear p64; try clear c73; try clear c96; try clear c98; try clear c99; try clear c99b0; try clear c101; try clear c101b0; try clear c101b1; try clear c102; try clear c102b0; try clear c102b1; try clear c108; try clear c110; try clear c110b0; try clear c111; try clear c111b0; try clear c112; try clear c112b0; try clear c113; try clear c113b0; try clear c114; try clear c114b0; try clear c116; try clear c116b0; try clear c117; try clear c117b0; try clear c118; try clear c118b0; try clear c118b1; try clear c120; try clear c120b0; try clear c121; try clear c121b0; try clear c121b1; try clear c122; try clear c122b0; try clear c123; try clear c123b0; try clear p124; try clear q124; try clear hx124; try clear c125; try clear c125b0; try clear c125b1; try clear c126; try clear c126b0; try clear c127; try clear c127b0; try clear p128; try clear q128; try clear hx128; try clear c130; try clear c130b0; try clear c131; try clear c131b0; try clear p132; try clear q132; try clear hx132; try clear c133; try clear c133b0; try clear c133b1; try clear c134; try clear c134b0; try clear c136; try clear c138; try clear c138b0; try clear c138b1; try clear c139; try clear c139b0; try clear c139b1; try clear c140; try clear c140b0; try clear c140b1; try clear c143; try clear c145; try clear c145b0; try clear c146; try clear c146b0; try clear c147; try clear c147b0; try clear c147b1; try clear c149; try clear c149b0; try clear c150; try clear c150b0; try clear c154; try clear c156; try clear c158; try clear c158b0; try clear c158b1; try clear c159; try clear c159b0; try clear c159b1; try clear c160; try clear c160b0; try clear c160b1; try clear c161; try clear c181; try clear c181b0; try clear c181b1; try clear c181b2; try clear c182; try clear c182b0; try clear c182b1; try clear c183; try clear c183b0; try clear c183b1; try clear c184; try clear c184b0; try clear c184b1; try clear c184b2; try clear c185; try clear c185b0; try clear c185b1; try clear c186; try clear c186b0; try clear c186b1; try clear c186b2; try clear c188; try clear c189; try clear c189b0; try clear c189b1; try clear c189b2; try clear c192; try clear c192b0; try clear c192b1; try clear c193; try clear c193b0; try clear c193b1; try clear c193b2; try clear c196; try clear c196b0; try clear c196b1; try clear c197; try clear c197b0; try clear c197b1; try clear c198; try clear c198b0; try clear c198b1; try clear c198b2; try clear c211; try clear c213; try clear c215; try clear c216; try clear c216b0; try clear c216b1; try clear c217; try clear c217b0; try clear c218; try clear c218b0; try clear c220; try clear c222; try clear c223; try clear c223b0; try clear c223b1; try clear c224; try clear c224b0; try clear c224b1; try clear c225; try clear c228; try clear c229; try clear c229b0; try clear c231; try clear c231b0; try clear c233; try clear c233b0; try clear c237; try clear hx381_0; try clear hx382_0; try clear hx385_0; try clear hx386_0; try clear p1; try clear p12; try clear p124; try clear p128; try clear p13; try clear p132; try clear p2; try clear p3; try clear p38; try clear p381; try clear p382; try clear p385; try clear p386; try clear p6; try clear p64; try clear q1; try clear q12; try clear q124; try clear q128; try clear q13; try clear q132; try clear q3; try clear q38; try clear q381; try clear q382; try clear q385; try clear q386
       obtain ⟨x591_9, rfl, HA, HK9, HO_589, HB⟩ := hrel
       cases gk with
       | zero => exact absurd HA.out (by simp [laws_FnFoldsStack.l3])
       | succ k9 =>
        have H := HA.out
        clear HA
        simp only [laws_FnFoldsStack.l3] at H
        by_cases c239 : x591_9 < (t406.length : Int)
        ·rw [if_pos c239] at H
         have c239b0 : decide (x591_9 < (t406.length : Int)) = true := decide_eq_true c239
         clear c239
         by_cases c240 : 0 ≤ x591_9
         ·rw [if_pos c240] at H
          have c240b0 : decide (0 ≤ x591_9) = true := decide_eq_true c240
          clear c240
          by_cases c241 : x591_9 < (t406.length : Int)
          ·rw [if_pos c241] at H
           have c241b0 : decide (x591_9 < (t406.length : Int)) = true := decide_eq_true c241
           clear c241
           replace H := Option.bind_eq_some_iff.mp H
           obtain ⟨⟨t432, t433, t434⟩, A2420, H⟩ := H
           (try dsimp only at H)
           have A242 := Aside0.mk A2420
           clear A2420
           by_cases c243 : t434 = true
           ·subst c243
            rw [if_pos rfl] at H
            by_cases c244 : t433 = (wrap64 (2 * t405))
            ·rw [if_pos c244] at H
             have c244b0 : (t433 == (wrap64 (2 * t405))) = true := beq_iff_eq.mpr c244
             have c244b1 : (t433 != (wrap64 (2 * t405))) = false := bne_eq_false_iff_eq.mpr c244
             clear c244
             by_cases c245 : (rd t406 x591_9) ≥ t404
             ·rw [if_pos c245] at H
              have c245b0 : decide (t404 ≤ (rd t406 x591_9)) = true := decide_eq_true c245
              clear c245
              exact absurd H (by simp)
             ·rw [if_neg c245] at H
              have c245b0 : decide (t404 ≤ (rd t406 x591_9)) = false := decide_eq_false c245
              clear c245
              have H' := Aside0.mk H
              clear H
              have p431 : 0 ≤ (x591_9 : Int) := of_decide_eq_true (by first | (with_reducible assumption) | assumption)
              have q431 : x591_9 < (t406.length : Int) := of_decide_eq_true (by first | (with_reducible assumption) | assumption)
              obtain ⟨ad431, e431, hx431_0⟩ := Kd.at_int (Kd.R_reads' HO_589.out).2.2 x591_9 p431 q431
              cases e431
              replace p431 := eq_true p431
              replace q431 := eq_true q431
              go_wp2_with (first | (go_at_call 20; (with_reducible refine (impl_SignatureOfPage.calls t404 t405 (rd t406 x591_9) t432 t433 true _ A242.out).mono ?_); rintro e w' ⟨rfl, ⟨nd, rfl⟩⟩; (try first | exact ⟨rfl, _, World.drewN_drewN _ _ _⟩ | exact ⟨rfl, _, Eq.trans (World.drewN_drewN _ _ _) (congrArg (World.drewN _) (Nat.add_assoc _ _ _))⟩)))
              repeat (go_quiet (first | (go_at_call 20; (with_reducible refine (impl_SignatureOfPage.calls t404 t405 (rd t406 x591_9) t432 t433 true _ A242.out).mono ?_); rintro e w' ⟨rfl, ⟨nd, rfl⟩⟩; (try first | exact ⟨rfl, _, World.drewN_drewN _ _ _⟩ | exact ⟨rfl, _, Eq.trans (World.drewN_drewN _ _ _) (congrArg (World.drewN _) (Nat.add_assoc _ _ _))⟩))); try go_wp2_with (first | (go_at_call 20; (with_reducible refine (impl_SignatureOfPage.calls t404 t405 (rd t406 x591_9) t432 t433 true _ A242.out).mono ?_); rintro e w' ⟨rfl, ⟨nd, rfl⟩⟩; (try first | exact ⟨rfl, _, World.drewN_drewN _ _ _⟩ | exact ⟨rfl, _, Eq.trans (World.drewN_drewN _ _ _) (congrArg (World.drewN _) (Nat.add_assoc _ _ _))⟩))))
              go_roundg k9
              case measure => have := HJ225.out; have := HK9.out; omega
              case rel => exact ⟨(wrap64 (x591_9 + 1)), (by first | rfl | (simp; done) | (simp [*]; done)), H', ⟨by have := HJ225.out; have := HK9.out; omega⟩, ⟨by (with_reducible repeat (first | apply Kd.R_alloc | apply Kd.R_drewN | apply Kd.R_drew)); exact HO_589.out⟩, ⟨by repeat (first | (with_reducible first | exact HB.out | apply below_alloc | apply pw_below_drewN | apply below_drew1) | exact HB.out)⟩⟩
            ·rw [if_neg c244] at H
             have c244b0 : (t433 == (wrap64 (2 * t405))) = false := beq_eq_false_iff_ne.mpr c244
             have c244b1 : (t433 != (wrap64 (2 * t405))) = true := bne_iff_ne.mpr c244
             exact absurd H (by simp)
           ·replace c243 := Bool.eq_false_iff.mpr c243
            subst c243
            rw [if_neg (show ¬ (false = true) by decide)] at H
            exact absurd H (by simp)
          ·rw [if_neg c241] at H
           exact absurd H (by simp)
         ·rw [if_neg c240] at H
          exact absurd H (by simp)
        ·rw [if_neg c239] at H
         have c239b0 : decide (x591_9 < (t406.length : Int)) = false := decide_eq_false c239
         clear c239
         have H' := Aside0.mk H
         clear H
         go_wp2
         repeat (go_quiet (fail); try go_wp2)
         go_loopg [77] k9 (fun kq v77 w' => ∃ (x77_10 : Int), v77 = .int .i64 x77_10 ∧ Aside0 (laws_FnFoldsStack.l4 kq t404 t405 t418 t419 x77_10 = some true) ∧ Aside0 (kq ≤ k9) ∧ Aside0 (Below w.heap.size w w'))
         case atStart => exact ⟨(1), (by first | rfl | (simp; done) | (simp [*]; done)), H', ⟨Nat.le_refl _⟩, ⟨by repeat (first | (with_reducible first | exact HB.out | apply below_alloc | apply pw_below_drewN | apply below_drew1) | exact HB.out)⟩⟩
         case round =>
          clear H'
          try clear p1; try clear q1; try clear hx1; try clear p2; try clear p3; try clear q3; try clear hx3; try clear p4; try clear q4; try clear hx4; try clear p6; try clear c10; try clear c11; try clear c12; try clear p12; try clear q12; try clear hx12; try clear c13; try clear p13; try clear q13; try clear hx13; try clear c14; try clear c15; try clear c16; try clear c18; try clear c19; try clear c21; try clear c22; try clear c23; try clear c24; try clear c26; try clear c26b0; try clear c26b1; try clear c26b2; try clear c27; try clear c27b0; try clear c27b1; try clear c28; try clear c28b0; try clear c28b1; try clear c28b2; try clear c30; try clear c31; try clear c31b0; try clear c31b1; try clear c31b2; try clear c35; try clear c36; try clear c36b0; try clear c36b1; try clear c36b2; try clear p38; try clear q38; try clear hx38; try clear c41; try clear c41b0; try clear c41b1; try clear c42; try clear c42b0; try clear c42b1; try clear c42b2; try clear p43; try clear q43; try clear hx43; try clear c47; try clear c47b0; try clear c47b1; try clear c48; try clear c48b0; try clear c48b1; try clear c48b2; try clear c53; try clear c53b0; try clear c53b1; try clear c53b2; try clear c58; try clear c59; try clear c60; try clear p64; try clear c73; try clear c96; try clear c98; try clear c99; try clear c99b0; try clear c101; try clear c101b0; try clear c101b1; try clear c102; try clear c102b0; try clear c102b1; try clear c108; try clear c110; try clear c110b0; try clear c111; try clear c111b0; try clear c112; try clear c112b0; try clear c113; try clear c113b0; try clear c114; try clear c114b0; try clear c116; try clear c116b0; try clear c117; try clear c117b0; try clear c118; try clear c118b0; try clear c118b1; try clear c120; try clear c120b0; try clear c121; try clear c121b0; try clear c121b1; try clear c122; try clear c122b0; try clear c123; try clear c123b0; try clear p124; try clear q124; try clear hx124; try clear c125; try clear c125b0; try clear c125b1; try clear c126; try clear c126b0; try clear c127; try clear c127b0; try clear p128; try clear q128; try clear hx128; try clear c130; try clear c130b0; try clear c131; try clear c131b0; try clear p132; try clear q132; try clear hx132; try clear c133; try clear c133b0; try clear c133b1; try clear c134; try clear c134b0; try clear c136; try clear c138; try clear c138b0; try clear c138b1; try clear c139; try clear c139b0; try clear c139b1; try clear c140; try clear c140b0; try clear c140b1; try clear c143; try clear c145; try clear c145b0; try clear c146; try clear c146b0; try clear c147; try clear c147b0; try clear c147b1; try clear c149; try clear c149b0; try clear c150; try clear c150b0; try clear c154; try clear c156; try clear c158; try clear c158b0; try clear c158b1; try clear c159; try clear c159b0; try clear c159b1; try clear c160; try clear c160b0; try clear c160b1; try clear c161; try clear c181; try clear c181b0; try clear c181b1; try clear c181b2; try clear c182; try clear c182b0; try clear c182b1; try clear c183; try clear c183b0; try clear c183b1; try clear c184; try clear c184b0; try clear c184b1; try clear c184b2; try clear c185; try clear c185b0; try clear c185b1; try clear c186; try clear c186b0; try clear c186b1; try clear c186b2; try clear c188; try clear c189; try clear c189b0; try clear c189b1; try clear c189b2; try clear c192; try clear c192b0; try clear c192b1; try clear c193; try clear c193b0; try clear c193b1; try clear c193b2; try clear c196; try clear c196b0; try clear c196b1; try clear c197; try clear c197b0; try clear c197b1; try clear c198; try clear c198b0; try clear c198b1; try clear c198b2; try clear c211; try clear c213; try clear c215; try clear c216; try clear c216b0; try clear c216b1; try clear c217; try clear c217b0; try clear c218; try clear c218b0; try clear c220; try clear c222; try clear c223; try clear c223b0; try clear c223b1; try clear c224; try clear c224b0; try clear c224b1; try clear c225; try clear c228; try clear c229; try clear c229b0; try clear c231; try clear c231b0; try clear c233; try clear c233b0; try clear c237; try clear c239; try clear c239b0; try clear c240; try clear c240b0; try clear c241; try clear c241b0; try clear c243; try clear c244; try clear c244b0; try clear c244b1; try clear c245; try clear c245b0; try clear hx381_0; try clear hx382_0; try clear hx385_0; try clear hx386_0; try clear hx431_0; try clear p1; try clear p12; try clear p124; try clear p128; try clear p13; try clear p132; try clear p2; try clear p3; try clear p38; try clear p381; try clear p382; try clear p385; try clear p386; try clear p431; try clear p6; try clear p64; try clear q1; try clear q12; try clear q124; try clear q128; try clear q13; try clear q132; try clear q3; try clear q38; try clear q381; try clear q382; try clear q385; try clear q386; try clear q431
          obtain ⟨x77_10, rfl, HA, HK10, HB⟩ := hrel
          cases gk with
          | zero => exact absurd HA.out (by simp [laws_FnFoldsStack.l4])
          | succ k10 =>
           have H := HA.out
           clear HA
           simp only [laws_FnFoldsStack.l4] at H
           by_cases c246 : x77_10 ≤ t405
           ·rw [if_pos c246] at H
            have c246b0 : decide (x77_10 ≤ t405) = true := decide_eq_true c246
            clear c246
            replace H := Option.bind_eq_some_iff.mp H
            obtain ⟨⟨t435, t436⟩, A2470, H⟩ := H
            (try dsimp only at H)
            have A247 := Aside0.mk A2470
            clear A2470
            by_cases c248 : t436 = true
            ·subst c248
             rw [if_pos rfl] at H
             by_cases c249 : (wrap64 ((wrap64 ((wrap64 (t435 * 4)) * x77_10)) - t404)) < t419
             ·rw [if_pos c249] at H
              have c249b0 : decide ((wrap64 ((wrap64 ((wrap64 (t435 * 4)) * x77_10)) - t404)) < t419) = true := decide_eq_true c249
              clear c249
              exact absurd H (by simp)
             ·rw [if_neg c249] at H
              have c249b0 : decide ((wrap64 ((wrap64 ((wrap64 (t435 * 4)) * x77_10)) - t404)) < t419) = false := decide_eq_false c249
              clear c249
              by_cases c250 : (wrap64 ((wrap64 ((wrap64 (t435 * 4)) * x77_10)) - t404)) = t419
              ·rw [if_pos c250] at H
               have c250b0 : ((wrap64 ((wrap64 ((wrap64 (t435 * 4)) * x77_10)) - t404)) == t419) = true := beq_iff_eq.mpr c250
               have c250b1 : ((wrap64 ((wrap64 ((wrap64 (t435 * 4)) * x77_10)) - t404)) != t419) = false := bne_eq_false_iff_eq.mpr c250
               clear c250
               by_cases c251 : x77_10 > t418
               ·rw [if_pos c251] at H
                have c251b0 : decide (t418 < x77_10) = true := decide_eq_true c251
                clear c251
                exact absurd H (by simp)
               ·rw [if_neg c251] at H
                have c251b0 : decide (t418 < x77_10) = false := decide_eq_false c251
                clear c251
                by_cases c252 : x77_10 = t418
                ·rw [if_pos c252] at H
                 have c252b0 : (x77_10 == t418) = true := beq_iff_eq.mpr c252
                 have c252b1 : (x77_10 != t418) = false := bne_eq_false_iff_eq.mpr c252
                 clear c252
                 have H' := Aside0.mk H
                 clear H
                 go_wp2_with (first | (go_at_call 28; (with_reducible refine (impl_SignaturesFor.calls t404 x77_10 t435 true _ A247.out).mono ?_); rintro e w' ⟨rfl, ⟨nd, rfl⟩⟩; (try first | exact ⟨rfl, _, World.drewN_drewN _ _ _⟩ | exact ⟨rfl, _, Eq.trans (World.drewN_drewN _ _ _) (congrArg (World.drewN _) (Nat.add_assoc _ _ _))⟩)))
                 repeat (go_quiet (first | (go_at_call 28; (with_reducible refine (impl_SignaturesFor.calls t404 x77_10 t435 true _ A247.out).mono ?_); rintro e w' ⟨rfl, ⟨nd, rfl⟩⟩; (try first | exact ⟨rfl, _, World.drewN_drewN _ _ _⟩ | exact ⟨rfl, _, Eq.trans (World.drewN_drewN _ _ _) (congrArg (World.drewN _) (Nat.add_assoc _ _ _))⟩))); try go_wp2_with (first | (go_at_call 28; (with_reducible refine (impl_SignaturesFor.calls t404 x77_10 t435 true _ A247.out).mono ?_); rintro e w' ⟨rfl, ⟨nd, rfl⟩⟩; (try first | exact ⟨rfl, _, World.drewN_drewN _ _ _⟩ | exact ⟨rfl, _, Eq.trans (World.drewN_drewN _ _ _) (congrArg (World.drewN _) (Nat.add_assoc _ _ _))⟩))))
                 go_roundg k10
                 case measure => have := HJ225.out; have := HK9.out; have := HK10.out; omega
                 case rel => exact ⟨(wrap64 (x77_10 + 1)), (by first | rfl | (simp; done) | (simp [*]; done)), H', ⟨by have := HJ225.out; have := HK9.out; have := HK10.out; omega⟩, ⟨by repeat (first | (with_reducible first | exact HB.out | apply below_alloc | apply pw_below_drewN | apply below_drew1) | exact HB.out)⟩⟩
                ·rw [if_neg c252] at H
                 have c252b0 : (x77_10 == t418) = false := beq_eq_false_iff_ne.mpr c252
                 have c252b1 : (x77_10 != t418) = true := bne_iff_ne.mpr c252
                 have H' := Aside0.mk H
                 clear H
                 go_wp2_with (first | (go_at_call 28; (with_reducible refine (impl_SignaturesFor.calls t404 x77_10 t435 true _ A247.out).mono ?_); rintro e w' ⟨rfl, ⟨nd, rfl⟩⟩; (try first | exact ⟨rfl, _, World.drewN_drewN _ _ _⟩ | exact ⟨rfl, _, Eq.trans (World.drewN_drewN _ _ _) (congrArg (World.drewN _) (Nat.add_assoc _ _ _))⟩)))
                 repeat (go_quiet (first | (go_at_call 28; (with_reducible refine (impl_SignaturesFor.calls t404 x77_10 t435 true _ A247.out).mono ?_); rintro e w' ⟨rfl, ⟨nd, rfl⟩⟩; (try first | exact ⟨rfl, _, World.drewN_drewN _ _ _⟩ | exact ⟨rfl, _, Eq.trans (World.drewN_drewN _ _ _) (congrArg (World.drewN _) (Nat.add_assoc _ _ _))⟩))); try go_wp2_with (first | (go_at_call 28; (with_reducible refine (impl_SignaturesFor.calls t404 x77_10 t435 true _ A247.out).mono ?_); rintro e w' ⟨rfl, ⟨nd, rfl⟩⟩; (try first | exact ⟨rfl, _, World.drewN_drewN _ _ _⟩ | exact ⟨rfl, _, Eq.trans (World.drewN_drewN _ _ _) (congrArg (World.drewN _) (Nat.add_assoc _ _ _))⟩))))
                 go_roundg k10
                 case measure => have := HJ225.out; have := HK9.out; have := HK10.out; omega
                 case rel => exact ⟨(wrap64 (x77_10 + 1)), (by first | rfl | (simp; done) | (simp [*]; done)), H', ⟨by have := HJ225.out; have := HK9.out; have := HK10.out; omega⟩, ⟨by repeat (first | (with_reducible first | exact HB.out | apply below_alloc | apply pw_below_drewN | apply below_drew1) | exact HB.out)⟩⟩
              ·rw [if_neg c250] at H
               have c250b0 : ((wrap64 ((wrap64 ((wrap64 (t435 * 4)) * x77_10)) - t404)) == t419) = false := beq_eq_false_iff_ne.mpr c250
               have c250b1 : ((wrap64 ((wrap64 ((wrap64 (t435 * 4)) * x77_10)) - t404)) != t419) = true := bne_iff_ne.mpr c250
               by_cases c253 : x77_10 = t418
               ·rw [if_pos c253] at H
                have c253b0 : (x77_10 == t418) = true := beq_iff_eq.mpr c253
                have c253b1 : (x77_10 != t418) = false := bne_eq_false_iff_eq.mpr c253
                clear c253
                exact absurd H (by simp)
               ·rw [if_neg c253] at H
                have c253b0 : (x77_10 == t418) = false := beq_eq_false_iff_ne.mpr c253
                have c253b1 : (x77_10 != t418) = true := bne_iff_ne.mpr c253
                have H' := Aside0.mk H
                clear H
                go_wp2_with (first | (go_at_call 28; (with_reducible refine (impl_SignaturesFor.calls t404 x77_10 t435 true _ A247.out).mono ?_); rintro e w' ⟨rfl, ⟨nd, rfl⟩⟩; (try first | exact ⟨rfl, _, World.drewN_drewN _ _ _⟩ | exact ⟨rfl, _, Eq.trans (World.drewN_drewN _ _ _) (congrArg (World.drewN _) (Nat.add_assoc _ _ _))⟩)))
                repeat (go_quiet (first | (go_at_call 28; (with_reducible refine (impl_SignaturesFor.calls t404 x77_10 t435 true _ A247.out).mono ?_); rintro e w' ⟨rfl, ⟨nd, rfl⟩⟩; (try first | exact ⟨rfl, _, World.drewN_drewN _ _ _⟩ | exact ⟨rfl, _, Eq.trans (World.drewN_drewN _ _ _) (congrArg (World.drewN _) (Nat.add_assoc _ _ _))⟩))); try go_wp2_with (first | (go_at_call 28; (with_reducible refine (impl_SignaturesFor.calls t404 x77_10 t435 true _ A247.out).mono ?_); rintro e w' ⟨rfl, ⟨nd, rfl⟩⟩; (try first | exact ⟨rfl, _, World.drewN_drewN _ _ _⟩ | exact ⟨rfl, _, Eq.trans (World.drewN_drewN _ _ _) (congrArg (World.drewN _) (Nat.add_assoc _ _ _))⟩))))
                go_roundg k10
                case measure => have := HJ225.out; have := HK9.out; have := HK10.out; omega
                case rel => exact ⟨(wrap64 (x77_10 + 1)), (by first | rfl | (simp; done) | (simp [*]; done)), H', ⟨by have := HJ225.out; have := HK9.out; have := HK10.out; omega⟩, ⟨by repeat (first | (with_reducible first | exact HB.out | apply below_alloc | apply pw_below_drewN | apply below_drew1) | exact HB.out)⟩⟩
            ·replace c248 := Bool.eq_false_iff.mpr c248
             subst c248
             rw [if_neg (show ¬ (false = true) by decide)] at H
             exact absurd H (by simp)
           ·rw [if_neg c246] at H
            have c246b0 : decide (x77_10 ≤ t405) = false := decide_eq_false c246
            clear c246
            clear H
            go_wp2
            repeat (go_quiet (fail); try go_wp2)
            go_ret
            exact ⟨by first | rfl | (simp [errW_none, errW_some] <;> rfl) | (simp [*, errW_none, errW_some] <;> rfl), by repeat (first | (with_reducible first | exact HB.out | apply below_alloc | apply pw_below_drewN | apply below_drew1) | exact HB.out)⟩
  ·replace c225 := Bool.eq_false_iff.mpr c225
   subst c225
   rw [if_neg (show ¬ (false = true) by decide)] at H
   clear H
   go_wp2
   repeat (go_quiet (fail); try go_wp2)
   go_ret
   exact ⟨by first | rfl | (simp [errW_none, errW_some] <;> rfl) | (simp [*, errW_none, errW_some] <;> rfl), by repeat (first | (with_reducible first | exact HB.out | apply below_alloc | apply pw_below_drewN | apply below_drew1) | exact HB.out)⟩

end Go.Proofs.Ytjkfgeigicljpaa.PFnFoldsStack
