-- WRITTEN BY A PROGRAM OF THIS SESSION (xprint), out of the translation: not trusted: it is checked as any text
import Derived.Test.YtjkfgeigicljpaaPFnFoldsStackx8
namespace Go.Proofs.Ytjkfgeigicljpaa.PFnFoldsStack
open Go.RowKit Go.Proofs.YtjkfgeigicljpaaW.PrintWords Go.Proofs.YtjkfgeigicljpaaW.PrintLast Go.Proofs.YtjkfgeigicljpaaW.PrintMore
attribute [local go_sem] max2_int min2_int max_two min_two max_three min_three max_four min_four   -- for this text's walks alone
set_option linter.unusedVariables false
set_option linter.unusedSimpArgs false

set_option maxHeartbeats 40000000 in
set_option maxRecDepth 1000000 in
theorem laws_FnFoldsStack.p30 (nx : laws_FnFoldsStack.P31) : laws_FnFoldsStack.P30 := by
 unfold laws_FnFoldsStack.P30
 intro w t387 t388 t389 t390 t391 t392 t396 t397 t398 t399 t400 t401 t404 t405 t406 t407 t414 t418 t419 v408 kq x507_174 wc HA HO_53 HB _ _ _ _ _ _ _ _ _ _ _ _ _ _ _ _ _ _ _ _ _ _ _ _ _ _ _ _ _ _ _ _ _ _ _ _ _ _ _ _ _ _ _ _ _ _ _ _ _ _ _ _ _ _ _ _ _ _ _ _ _ _ _ _ _ _ _ _ _ _ _ _ _ _ _ _ _ _ _ _ _ _ _ _ _ _ _ _ _ _ _ _ _ _ _ _ _ _ _ _ _ _ _ _ _ _ _ _ _ _ _ _ _ _ _ _ _ _ _ _ _ _ _ _ _ _ _ _ _ _ _ _ _ _ _ _ _ _ _ _ _ _ _ _ _ _ _ _ _ _ _ _ _ _ _ _ _ _ _ _ _ _ _ _ _ _ _ _ _ _ _ _ _ _ _ _ _ _ _ _ _ _ _ _ _ _ _ _ _ _ _ _ _ _ _ _ _ _ _ _ _ _ _ _ _ _ _ _ _ _ _ _ _ _ _ _ _ _ _ _ _ _ _ _ _ _ _ _ _ _ _ _ _ _ _ _ _ _ _ _ _ _ _ _ _ _ _ _ _ _ _ _ _ _ _ _ _ _ _ _ _ _ _ _ _ _ _ _ _ _ _ _ _ _ _ _ _ _ _ _ _ _ _ _ _ _ _ _ _ _ _ _ _ _ _ _ _ _ _ _ _ _ _ _ _ _ _ _ _ _ _ _ _ _ _ _ _ _ _ _ _ _ _ _ _ _ _ _ _ _ _ _ _ _ _ _ _ _ _ _ _ _ _ _ _ _ _ _ _ _ _ _ _ _ _ _ _ _ _ _ _ _ _ _ _ _ _ _ _ _ _ _ _ _ _ _ _ _ _ _ _ _ _ _ _ _ _ _ _ _ _ _ _ _ _ _ _ _ _ _ _ _ _ _ _ _ _ _ _ _ _ _ _ _ _ _ _ _ _ _ _ _ _ _ _ _ _ _ _ _ _ _ _ _ _ _ _ _ _ _ _ _ _ _ _ _ _ _ _ _ _ _ _ _ _ _ _ _ _ _ _ _ _ _ _ _ _ _ _ _ _ _ _ _ _ _ _ _ _ _ _ _ _ _ _ _ _ _ _ _ _ _ _ _ _ _ _ _ _ _ _ _ _ _ _ _ _ _ _ _ _ _ _ _ _ _ _ _ _ _ _ _ _ _ _ _ _ _ _ _ _ _ _ _ _ _ _ _ _ _ _ _ _ _ _ _ _ _ _ _ _ _ _ _ _ _ _ _ _ _ _ _ _ _ _ _ _ _ _ _ _ _ _ _ _ _ _ _ _ _ _ _ _ _ _ _ _ _ _ _ _ _ _ _ _ _ _ _ _ _ _ _ _ _ _ _ _ _ _ _ _ _ _ _ _ _ _ _ _ _ _ _ _ _ _ _ _ _ _ _ _ _ _ _ _ _ _ _ _ _ _ Q' K1 a1 K0 a0
 conv at a1 => intro a w; lhs; arg 2; whnf
 conv at a0 => intro a w; lhs; arg 2; whnf
 try dsimp only
 cases kq with
 | zero => exact absurd HA.out (by simp [laws_FnFoldsStack.j8])
 | succ kj174 =>
  have H := HA.out
  clear HA
  simp only [laws_FnFoldsStack.j8] at H
  by_cases c211 : x507_174 = true
  ·subst c211
   rw [if_pos rfl] at H
   exact absurd H (by simp)
  ·replace c211 := Bool.eq_false_iff.mpr c211
   subst c211
   rw [if_neg (show ¬ (false = true) by decide)] at H
   have HC212 := Aside0.mk H
   clear H
   go_upto_if 508 with (fail)
   repeat (go_quiet (fail); go_upto_if 508 with (fail))
   go_cut [] from 508 to 508 (fun wc => ∃ (kq : Nat), Aside0 (laws_FnFoldsStack.j9 kq t396 t397 t398 t399 t400 t401 t404 t405 t406 t407 t414 t418 t419 = some true) ∧ Aside0 (kq ≤ kj174) ∧ Aside0 (Kd.R (Kd.int .i64) 3 wc w.heap.size (fun _ => True) v408 t406) ∧ Aside0 (Below w.heap.size w wc))
   case first =>
    try clear A3; try clear A5; try clear A6; try clear A7; try clear A8; try clear A9; try clear A10; try clear A11; try clear A12; try clear A13; try clear A14; try clear A15; try clear A29; try clear A34; try clear A135; try clear A162; try clear A163; try clear A164; try clear A165; try clear A166; try clear A167; try clear A168; try clear A169; try clear A170; try clear A171; try clear A172; try clear A173; try clear A174; try clear A187
    (try simp only [List.append_eq, List.cons_append, List.nil_append])
    have H := HC212.out
    clear HC212
    by_cases c213 : t392 = true
    ·subst c213
     rw [if_pos rfl] at H
     replace H := Option.bind_eq_some_iff.mp H
     obtain ⟨⟨t425, t426⟩, A2140, H⟩ := H
     (try dsimp only at H)
     have A214 := Aside0.mk A2140
     clear A2140
     by_cases c215 : t426 = true
     ·subst c215
      rw [if_pos rfl] at H
      by_cases c216 : t425 = t389
      ·rw [if_pos c216] at H
       subst c216
       by_cases c217 : t391 < 1
       ·rw [if_pos c217] at H
        have c217b0 : decide (t391 < 1) = true := decide_eq_true c217
        clear c217
        exact absurd H (by simp)
       ·rw [if_neg c217] at H
        have c217b0 : decide (t391 < 1) = false := decide_eq_false c217
        clear c217
        by_cases c218 : t391 > (wrap64 (4 * t388))
        ·rw [if_pos c218] at H
         have c218b0 : decide ((wrap64 (4 * t388)) < t391) = true := decide_eq_true c218
         clear c218
         exact absurd H (by simp)
        ·rw [if_neg c218] at H
         have c218b0 : decide ((wrap64 (4 * t388)) < t391) = false := decide_eq_false c218
         clear c218
         have H' := Aside0.mk H
         clear H
         go_wp2_with (first | (go_at_call 23; (with_reducible refine (impl_PageInBook.calls kj174 t387 t388 t390 t391 t425 true _ A214.out).mono ?_); rintro e w' ⟨rfl, ⟨nd, rfl⟩⟩; (try first | exact ⟨rfl, _, World.drewN_drewN _ _ _⟩ | exact ⟨rfl, _, Eq.trans (World.drewN_drewN _ _ _) (congrArg (World.drewN _) (Nat.add_assoc _ _ _))⟩)))
         repeat (go_quiet (first | (go_at_call 23; (with_reducible refine (impl_PageInBook.calls kj174 t387 t388 t390 t391 t425 true _ A214.out).mono ?_); rintro e w' ⟨rfl, ⟨nd, rfl⟩⟩; (try first | exact ⟨rfl, _, World.drewN_drewN _ _ _⟩ | exact ⟨rfl, _, Eq.trans (World.drewN_drewN _ _ _) (congrArg (World.drewN _) (Nat.add_assoc _ _ _))⟩))); try go_wp2_with (first | (go_at_call 23; (with_reducible refine (impl_PageInBook.calls kj174 t387 t388 t390 t391 t425 true _ A214.out).mono ?_); rintro e w' ⟨rfl, ⟨nd, rfl⟩⟩; (try first | exact ⟨rfl, _, World.drewN_drewN _ _ _⟩ | exact ⟨rfl, _, Eq.trans (World.drewN_drewN _ _ _) (congrArg (World.drewN _) (Nat.add_assoc _ _ _))⟩))))
         go_meet
         case rel => exact ⟨_, H', ⟨by first | omega | exact Nat.le_refl _⟩, ⟨by (with_reducible repeat (first | apply Kd.R_alloc | apply Kd.R_drewN | apply Kd.R_drew)); exact HO_53.out⟩, ⟨by repeat (first | (with_reducible first | exact HB.out | apply below_alloc | apply pw_below_drewN | apply below_drew1) | exact HB.out)⟩⟩
      ·rw [if_neg c216] at H
       have c216b0 : (t425 == t389) = false := beq_eq_false_iff_ne.mpr c216
       have c216b1 : (t425 != t389) = true := bne_iff_ne.mpr c216
       (first | rw [c216b0] | (simp only [i64_w, i32_w]; rw [c216b0]) | skip)
       exact absurd H (by simp)
     ·replace c215 := Bool.eq_false_iff.mpr c215
      subst c215
      rw [if_neg (show ¬ (false = true) by decide)] at H
      exact absurd H (by simp)
    ·replace c213 := Bool.eq_false_iff.mpr c213
     subst c213
     rw [if_neg (show ¬ (false = true) by decide)] at H
     have H' := Aside0.mk H
     clear H
     go_wp2
     repeat (go_quiet (fail); try go_wp2)
     go_meet
     case rel => exact ⟨_, H', ⟨by first | omega | exact Nat.le_refl _⟩, ⟨by (with_reducible repeat (first | apply Kd.R_alloc | apply Kd.R_drewN | apply Kd.R_drew)); exact HO_53.out⟩, ⟨by repeat (first | (with_reducible first | exact HB.out | apply below_alloc | apply pw_below_drewN | apply below_drew1) | exact HB.out)⟩⟩
   case rest =>
    clear HC212
    try clear p1; try clear q1; try clear hx1; try clear p2; try clear p3; try clear q3; try clear hx3; try clear p6; try clear c10; try clear c11; try clear c12; try clear p12; try clear q12; try clear hx12; try clear c13; try clear p13; try clear q13; try clear hx13; try clear c14; try clear c15; try clear c16; try clear c18; try clear c19; try clear c21; try clear c26; try clear c26b0; try clear c26b1; try clear c26b2; try clear c27; try clear c27b0; try clear c27b1; try clear c28; try clear c28b0; try clear c28b1; try clear c28b2; try clear c30; try clear c31; try clear c31b0; try clear c31b1; try clear c31b2; try clear c35; try clear c36; try clear c36b0; try clear c36b1; try clear c36b2; try clear p38; try clear q38; try clear hx38; try clear c41; try clear c41b0; try clear c41b1; try clear c42; try clear c42b0; try clear c42b1; try clear c42b2; try clear c47; try clear c47b0; try clear c47b1; try clear c48; try clear c48b0; try clear c48b1; try clear c48b2; try clear c53; try clear c53b0; try clear c53b1; try clear c53b2; try clear c58; try clear c59; try clear c60; try clear p64; try clear c73; try clear c96; try clear c98; try clear c99; try clear c99b0; try clear c101; try clear c101b0; try clear c101b1; try clear c102; try clear c102b0; try clear c102b1; try clear c108; try clear c110; try clear c110b0; try clear c111; try clear c111b0; try clear c112; try clear c112b0; try clear c113; try clear c113b0; try clear c114; try clear c114b0; try clear c116; try clear c116b0; try clear c117; try clear c117b0; try clear c118; try clear c118b0; try clear c118b1; try clear c120; try clear c120b0; try clear c121; try clear c121b0; try clear c121b1; try clear c122; try clear c122b0; try clear c123; try clear c123b0; try clear p124; try clear q124; try clear hx124; try clear c125; try clear c125b0; try clear c125b1; try clear c126; try clear c126b0; try clear c127; try clear c127b0; try clear p128; try clear q128; try clear hx128; try clear c130; try clear c130b0; try clear c131; try clear c131b0; try clear p132; try clear q132; try clear hx132; try clear c133; try clear c133b0; try clear c133b1; try clear c134; try clear c134b0; try clear c136; try clear c138; try clear c138b0; try clear c138b1; try clear c139; try clear c139b0; try clear c139b1; try clear c140; try clear c140b0; try clear c140b1; try clear c143; try clear c145; try clear c145b0; try clear c146; try clear c146b0; try clear c147; try clear c147b0; try clear c147b1; try clear c149; try clear c149b0; try clear c150; try clear c150b0; try clear c154; try clear c156; try clear c158; try clear c158b0; try clear c158b1; try clear c159; try clear c159b0; try clear c159b1; try clear c160; try clear c160b0; try clear c160b1; try clear c161; try clear c181; try clear c181b0; try clear c181b1; try clear c181b2; try clear c182; try clear c182b0; try clear c182b1; try clear c183; try clear c183b0; try clear c183b1; try clear c184; try clear c184b0; try clear c184b1; try clear c184b2; try clear c185; try clear c185b0; try clear c185b1; try clear c186; try clear c186b0; try clear c186b1; try clear c186b2; try clear c188; try clear c189; try clear c189b0; try clear c189b1; try clear c189b2; try clear c192; try clear c192b0; try clear c192b1; try clear c193; try clear c193b0; try clear c193b1; try clear c193b2; try clear c196; try clear c196b0; try clear c196b1; try clear c197; try clear c197b0; try clear c197b1; try clear c198; try clear c198b0; try clear c198b1; try clear c198b2; try clear c211; try clear c213; try clear c215; try clear c216; try clear c216b0; try clear c216b1; try clear c217; try clear c217b0; try clear c218; try clear c218b0; try clear hx381_0; try clear hx382_0; try clear hx385_0; try clear hx386_0; try clear p1; try clear p12; try clear p124; try clear p128; try clear p13; try clear p132; try clear p2; try clear p3; try clear p38; try clear p381; try clear p382; try clear p385; try clear p386; try clear p6; try clear p64; try clear q1; try clear q12; try clear q124; try clear q128; try clear q13; try clear q132; try clear q3; try clear q38; try clear q381; try clear q382; try clear q385; try clear q386
    obtain ⟨kq, HA, HJ211, HO_53, HB⟩ := hcut
    rename_i K1 a1
    exact nx w t396 t397 t398 t399 t400 t401 t404 t405 t406 t407 t414 t418 t419 v408 kq wc HA HO_53 HB _ _ _ _ _ _ _ _ _ _ _ _ _ _ _ _ _ _ _ _ _ _ _ _ _ _ _ _ _ _ _ _ _ _ _ _ _ _ _ _ _ _ _ _ _ _ _ _ _ _ _ _ _ _ _ _ _ _ _ _ _ _ _ _ _ _ _ _ _ _ _ _ _ _ _ _ _ _ _ _ _ _ _ _ _ _ _ _ _ _ _ _ _ _ _ _ _ _ _ _ _ _ _ _ _ _ _ _ _ _ _ _ _ _ _ _ _ _ _ _ _ _ _ _ _ _ _ _ _ _ _ _ _ _ _ _ _ _ _ _ _ _ _ _ _ _ _ _ _ _ _ _ _ _ _ _ _ _ _ _ _ _ _ _ _ _ _ _ _ _ _ _ _ _ _ _ _ _ _ _ _ _ _ _ _ _ _ _ _ _ _ _ _ _ _ _ _ _ _ _ _ _ _ _ _ _ _ _ _ _ _ _ _ _ _ _ _ _ _ _ _ _ _ _ _ _ _ _ _ _ _ _ _ _ _ _ _ _ _ _ _ _ _ _ _ _ _ _ _ _ _ _ _ _ _ _ _ _ _ _ _ _ _ _ _ _ _ _ _ _ _ _ _ _ _ _ _ _ _ _ _ _ _ _ _ _ _ _ _ _ _ _ _ _ _ _ _ _ _ _ _ _ _ _ _ _ _ _ _ _ _ _ _ _ _ _ _ _ _ _ _ _ _ _ _ _ _ _ _ _ _ _ _ _ _ _ _ _ _ _ _ _ _ _ _ _ _ _ _ _ _ _ _ _ _ _ _ _ _ _ _ _ _ _ _ _ _ _ _ _ _ _ _ _ _ _ _ _ _ _ _ _ _ _ _ _ _ _ _ _ _ _ _ _ _ _ _ _ _ _ _ _ _ _ _ _ _ _ _ _ _ _ _ _ _ _ _ _ _ _ _ _ _ _ _ _ _ _ _ _ _ _ _ _ _ _ _ _ _ _ _ _ _ _ _ _ _ _ _ _ _ _ _ _ _ _ _ _ _ _ _ _ _ _ _ _ _ _ _ _ _ _ _ _ _ _ _ _ _ _ _ _ _ _ _ _ _ _ _ _ _ _ _ _ _ _ _ _ _ _ _ _ _ _ _ _ _ _ _ _ _ _ _ _ _ _ _ _ _ _ _ _ _ _ _ _ _ _ _ _ _ _ _ _ _ _ _ _ _ _ _ _ _ _ _ _ _ _ _ _ _ _ _ _ _ _ _ _ _ _ _ _ _ _ _ _ _ _ _ _ _ _ _ _ _ _ _ _ _ _ _ _ _ _ _ _ _ _ _ _ _ _ _ _ _ _ _ _ _ _ _ _ _ _ _ _ _ _ _ _ _ _ _ _ _ _ _ _ _ _ _ _ _ _ _ _ _ _ _ _ _ _ _ _ _ _ _ _ _ _ _ _ _ _ _ _ _ _ K1 a1

end Go.Proofs.Ytjkfgeigicljpaa.PFnFoldsStack
