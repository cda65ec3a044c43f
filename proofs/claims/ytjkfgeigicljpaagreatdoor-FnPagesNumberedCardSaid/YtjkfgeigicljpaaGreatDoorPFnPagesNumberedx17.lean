-- WRITTEN BY A PROGRAM OF THIS SESSION (xprint), out of the translation: not trusted: it is checked as any text
import Derived.Test.YtjkfgeigicljpaaGreatDoorPFnPagesNumberedx13
namespace Go.Proofs.YtjkfgeigicljpaaGreatDoor.PFnPagesNumbered
open Go.RowKit Go.Proofs.YtjkfgeigicljpaaGreatDoorW.PrintWords Go.Proofs.YtjkfgeigicljpaaGreatDoorW.PrintLast Go.Proofs.YtjkfgeigicljpaaGreatDoorW.PrintMore
attribute [local go_sem] max2_int min2_int max_two min_two max_three min_three max_four min_four
set_option linter.unusedVariables false
set_option linter.unusedSimpArgs false

set_option maxHeartbeats 40000000 in
set_option maxRecDepth 1000000 in
theorem laws_FnPagesNumbered.p27 (nx : laws_FnPagesNumbered.P28) : laws_FnPagesNumbered.P27 := by
 unfold laws_FnPagesNumbered.P27
 intro l1 w HE HG t416 t417 t418 t419 t422 t423 t424 t425 t429 t430 t431 t434 t437 t438 t441 t442 t443 v444 Ao75 co75 kq x338_64 wc HA HO_45 HO_51 HB _ _ _ _ _ _ _ _ _ _ _ _ _ _ _ _ _ _ _ _ _ _ _ _ _ _ _ _ _ _ _ _ _ _ _ _ _ _ _ _ _ _ _ _ _ _ _ _ _ _ _ _ _ _ _ _ _ _ _ _ _ _ _ _ _ _ _ _ _ _ _ _ _ _ _ _ _ _ _ _ _ _ _ _ _ _ _ _ _ _ _ _ _ _ _ _ _ _ _ _ _ _ _ _ _ _ _ _ _ _ _ _ _ _ _ _ _ _ _ _ _ _ _ _ _ _ _ _ _ _ _ _ _ _ _ _ _ _ _ _ _ _ _ _ _ _ _ _ _ _ _ _ _ _ _ _ _ _ _ _ _ _ _ _ _ _ _ _ _ _ _ _ _ _ _ _ _ _ _ _ _ _ _ _ _ _ _ _ _ _ _ _ _ _ _ _ _ _ _ _ _ _ _ _ _ _ _ _ _ _ _ _ _ _ _ _ _ _ _ _ _ _ _ _ _ _ _ _ _ _ _ _ _ _ _ _ _ _ _ _ _ _ _ _ _ _ _ _ _ _ _ _ _ _ _ _ _ _ _ _ _ _ _ _ _ _ _ _ _ _ _ _ _ _ _ _ _ _ _ _ _ _ _ _ _ _ _ _ _ _ _ _ _ _ _ _ _ _ _ _ _ _ _ _ _ _ _ _ _ _ _ _ _ _ _ _ _ _ _ _ _ _ _ _ _ _ _ _ _ _ _ _ _ _ _ _ _ _ _ _ _ _ _ _ _ _ _ _ _ _ _ _ _ _ _ _ _ _ _ _ _ _ _ _ _ _ _ _ _ _ _ _ _ _ _ _ _ _ _ _ _ _ _ _ _ _ _ _ _ _ _ _ _ _ _ _ _ _ _ _ _ _ _ _ _ _ _ _ _ _ _ _ _ _ _ _ _ _ _ _ _ _ _ _ _ _ _ _ _ _ _ _ _ _ _ _ _ Q' K1 a1 K0 a0
 conv at a1 => intro a w; lhs; arg 2; whnf
 conv at a0 => intro a w; lhs; arg 2; whnf
 try dsimp only
 cases kq with
 | zero => exact absurd HA.out (by simp [laws_FnPagesNumbered.j5])
 | succ kj64 =>
  have H := HA.out
  clear HA
  simp only [laws_FnPagesNumbered.j5] at H
  by_cases c94 : x338_64 = true
  ·subst c94
   rw [if_pos rfl] at H
   exact absurd H (by simp)
  ·replace c94 := Bool.eq_false_iff.mpr c94
   subst c94
   rw [if_neg (show ¬ (false = true) by decide)] at H
   have HC95 := Aside0.mk H
   clear H
   go_upto_if 339 with (fail)
   go_cut [] from 339 to 339 (fun wc => ∃ (kq : Nat), Aside0 (laws_FnPagesNumbered.j7 kq t422 t423 t424 t425 t429 t430 t431 t434 t437 t438 t441 t442 t443 = some true) ∧ Aside0 (kq ≤ kj64) ∧ Aside0 (Kd.R (Kd.int .i64) 3 wc w.heap.size (fun k_ => some k_ ≠ (v444 : Value).ownBlock) (.slice Ao75 t434.length co75) t434) ∧ Aside0 (Kd.R (Kd.int .i64) 3 wc w.heap.size (fun k_ => some k_ ≠ ((.slice Ao75 t434.length co75) : Value).ownBlock) v444 t442) ∧ Aside0 (Below w.heap.size w wc))
   case first =>
    try clear A3; try clear A5; try clear A6; try clear A7; try clear A8; try clear A9; try clear A10; try clear A11; try clear A29; try clear A32; try clear A46; try clear A50; try clear A51; try clear A52; try clear A53; try clear A54; try clear A55; try clear A56; try clear A57; try clear A58; try clear A59; try clear A60; try clear A61; try clear A62; try clear A63; try clear A64; try clear A91
    (try simp only [List.append_eq, List.cons_append, List.nil_append])
    have H := HC95.out
    clear HC95
    by_cases c96 : t419 = true
    ·subst c96
     rw [if_pos rfl] at H
     replace H := Xs.mp H
     obtain ⟨⟨t451, t452⟩, A970, H⟩ := H
     (try dsimp only at H)
     have A97 := Aside0.mk A970
     clear A970
     have HC98 := Aside0.mk H
     clear H
     go_upto_region 50 with (first | ((with_reducible refine gate_callee (f := 6) rfl ?_); refine goesL_ (some 343) rfl rfl Tryz.func6 (by kernel_rfl) rfl #[.int .i64 t418, .int .i64 t416] rfl (by (try simp only [Xp, Xq, Xr]); first | done | rfl) ?_; (with_reducible refine (impl_CountDigit.calls kj64 t418 t416 t451 t452 _ (by exact strconv_Itoa.tab HG.out (by repeat (with_reducible first | exact HB.out | apply Xc | apply Xa | apply Xb))) A97.out).mono ?_); rintro e w99 ⟨rfl, hb⟩; refine ⟨_, rfl, ?_⟩; replace HO_45 := Aside0.mk (Xx (by (with_reducible repeat (first | apply Xg | apply Xh | apply Xi)); exact HO_45.out) hb); replace HO_51 := Aside0.mk (Xx (by (with_reducible repeat (first | apply Xg | apply Xh | apply Xi)); exact HO_51.out) hb); replace HB := Aside0.mk (Xd (by repeat (with_reducible first | exact HB.out | apply Xc | apply Xa | apply Xb)) hb); (try clear hb)))
     (try simp only [Act.put, Xm, Xn, Xo])
     go_cut [352] from 340 to 352 (fun v352 wc => ∃ (kq : Nat) (x352_97 : Bool), v352 = .bool x352_97 ∧ Aside0 (laws_FnPagesNumbered.j6 kq t416 t417 t418 t422 t423 t424 t425 t429 t430 t431 t434 t437 t438 t441 t442 t443 x352_97 = some true) ∧ Aside0 (kq ≤ kj64) ∧ Aside0 (Kd.R (Kd.int .i64) 3 wc w.heap.size (fun k_ => some k_ ≠ (v444 : Value).ownBlock) (.slice Ao75 t434.length co75) t434) ∧ Aside0 (Kd.R (Kd.int .i64) 3 wc w.heap.size (fun k_ => some k_ ≠ ((.slice Ao75 t434.length co75) : Value).ownBlock) v444 t442) ∧ Aside0 (Below w.heap.size w wc))
     case first =>
      try clear A3; try clear A5; try clear A6; try clear A7; try clear A8; try clear A9; try clear A10; try clear A11; try clear A29; try clear A32; try clear A46; try clear A50; try clear A51; try clear A52; try clear A53; try clear A54; try clear A55; try clear A56; try clear A57; try clear A58; try clear A59; try clear A60; try clear A61; try clear A62; try clear A63; try clear A64; try clear A91; try clear A97
      (try simp only [List.append_eq, List.cons_append, List.nil_append])
      have H := HC98.out
      clear HC98
      by_cases c100 : t452 = true
      ·subst c100
       rw [if_pos rfl] at H
       have H' := Aside0.mk H
       clear H
       go_wp2
       go_meet
       case rel => exact ⟨_, (decide (t451 > t417)), (by first | rfl | simp | simp [*]), H', ⟨by first | omega | exact Nat.le_refl _⟩, ⟨by (with_reducible repeat (first | apply Xg | apply Xh | apply Xi)); exact HO_45.out⟩, ⟨by (with_reducible repeat (first | apply Xg | apply Xh | apply Xi)); exact HO_51.out⟩, ⟨by repeat (with_reducible first | exact HB.out | apply Xc | apply Xa | apply Xb)⟩⟩
      ·replace c100 := Bool.eq_false_iff.mpr c100
       subst c100
       rw [if_neg (show ¬ (false = true) by decide)] at H
       exact absurd H laws_FnPagesNumbered.j6_dead
     case rest =>
      clear HC98
      try clear p2; try clear p6; try clear c10; try clear c11; try clear c12; try clear c13; try clear c14; try clear c15; try clear c16; try clear c17; try clear c18; try clear c18b0; try clear c18b1; try clear c18b2; try clear c19; try clear c19b0; try clear c19b1; try clear c20; try clear c20b0; try clear c20b1; try clear c20b2; try clear c21; try clear c21b0; try clear c21b1; try clear c22; try clear c22b0; try clear c22b1; try clear c22b2; try clear c23; try clear c23b0; try clear c23b1; try clear c24; try clear c24b0; try clear c24b1; try clear c24b2; try clear c25; try clear c26; try clear c28; try clear c31; try clear c31b0; try clear c33; try clear c35; try clear c36; try clear c36b0; try clear c36b1; try clear c37; try clear c37b0; try clear c37b1; try clear c38; try clear c38b0; try clear c40; try clear c42; try clear c42b0; try clear c43; try clear c43b0; try clear c44; try clear c45; try clear c45b0; try clear c47; try clear c48; try clear c48b0; try clear c81; try clear c81b0; try clear c81b1; try clear c81b2; try clear c82; try clear c82b0; try clear c82b1; try clear c83; try clear c83b0; try clear c83b1; try clear c83b2; try clear c84; try clear c84b0; try clear c84b1; try clear c85; try clear c85b0; try clear c85b1; try clear c86; try clear c86b0; try clear c86b1; try clear c86b2; try clear c87; try clear c87b0; try clear c87b1; try clear c88; try clear c88b0; try clear c88b1; try clear c88b2; try clear c89; try clear c89b0; try clear c89b1; try clear c90; try clear c90b0; try clear c90b1; try clear c90b2; try clear c94; try clear c96; try clear c100; try clear p2; try clear p6
      obtain ⟨kq, x352_97, rfl, HA, HJ97, HO_45, HO_51, HB⟩ := hcut
      cases kq with
      | zero => exact absurd HA.out (by simp [laws_FnPagesNumbered.j6])
      | succ kj97 =>
       have H := HA.out
       clear HA
       simp only [laws_FnPagesNumbered.j6] at H
       by_cases c101 : x352_97 = true
       ·subst c101
        rw [if_pos rfl] at H
        exact absurd H (by simp)
       ·replace c101 := Bool.eq_false_iff.mpr c101
        subst c101
        rw [if_neg (show ¬ (false = true) by decide)] at H
        by_cases c102 : t418 < 2000
        ·rw [if_pos c102] at H
         have c102b0 : decide (t418 < 2000) = true := decide_eq_true c102
         clear c102
         replace H := Xs.mp H
         obtain ⟨⟨t453, t454⟩, A1030, H⟩ := H
         (try dsimp only at H)
         have A103 := Aside0.mk A1030
         clear A1030
         by_cases c104 : t454 = true
         ·subst c104
          rw [if_pos rfl] at H
          by_cases c105 : t453 ≤ t417
          ·rw [if_pos c105] at H
           have c105b0 : decide (t453 ≤ t417) = true := decide_eq_true c105
           clear c105
           exact absurd H (by simp)
          ·rw [if_neg c105] at H
           have c105b0 : decide (t453 ≤ t417) = false := decide_eq_false c105
           clear c105
           have H' := Aside0.mk H
           clear H
           go_wp2_with (first | ((with_reducible refine gate_callee (f := 6) rfl ?_); refine goesL_ (some 359) rfl rfl Tryz.func6 (by kernel_rfl) rfl #[.int .i64 (wrap64 (t418 + 1)), .int .i64 t416] rfl (by (try simp only [Xp, Xq, Xr]); first | done | rfl) ?_; (with_reducible refine (impl_CountDigit.calls kj97 (wrap64 (t418 + 1)) t416 t453 true _ (by exact strconv_Itoa.tab HG.out (by repeat (with_reducible first | exact HB.out | apply Xc | apply Xa | apply Xb))) A103.out).mono ?_); rintro e w106 ⟨rfl, hb⟩; refine ⟨_, rfl, ?_⟩; replace HO_45 := Aside0.mk (Xx (by (with_reducible repeat (first | apply Xg | apply Xh | apply Xi)); exact HO_45.out) hb); replace HO_51 := Aside0.mk (Xx (by (with_reducible repeat (first | apply Xg | apply Xh | apply Xi)); exact HO_51.out) hb); replace HB := Aside0.mk (Xd (by repeat (with_reducible first | exact HB.out | apply Xc | apply Xa | apply Xb)) hb); (try clear hb)))
           go_meet
           case rel => exact ⟨_, H', ⟨by have := HJ97.out; first | omega | exact Nat.le_refl _⟩, ⟨by (with_reducible repeat (first | apply Xg | apply Xh | apply Xi)); exact HO_45.out⟩, ⟨by (with_reducible repeat (first | apply Xg | apply Xh | apply Xi)); exact HO_51.out⟩, ⟨by repeat (with_reducible first | exact HB.out | apply Xc | apply Xa | apply Xb)⟩⟩
         ·replace c104 := Bool.eq_false_iff.mpr c104
          subst c104
          rw [if_neg (show ¬ (false = true) by decide)] at H
          exact absurd H (by simp)
        ·rw [if_neg c102] at H
         have c102b0 : decide (t418 < 2000) = false := decide_eq_false c102
         clear c102
         have H' := Aside0.mk H
         clear H
         go_wp2
         go_meet
         case rel => exact ⟨_, H', ⟨by have := HJ97.out; first | omega | exact Nat.le_refl _⟩, ⟨by (with_reducible repeat (first | apply Xg | apply Xh | apply Xi)); exact HO_45.out⟩, ⟨by (with_reducible repeat (first | apply Xg | apply Xh | apply Xi)); exact HO_51.out⟩, ⟨by repeat (with_reducible first | exact HB.out | apply Xc | apply Xa | apply Xb)⟩⟩
    ·replace c96 := Bool.eq_false_iff.mpr c96
     subst c96
     rw [if_neg (show ¬ (false = true) by decide)] at H
     have H' := Aside0.mk H
     clear H
     go_wp2
     go_meet
     case rel => exact ⟨_, H', ⟨by first | omega | exact Nat.le_refl _⟩, ⟨by (with_reducible repeat (first | apply Xg | apply Xh | apply Xi)); exact HO_45.out⟩, ⟨by (with_reducible repeat (first | apply Xg | apply Xh | apply Xi)); exact HO_51.out⟩, ⟨by repeat (with_reducible first | exact HB.out | apply Xc | apply Xa | apply Xb)⟩⟩
   case rest =>
    clear HC95
    try clear p2; try clear p6; try clear c10; try clear c11; try clear c12; try clear c13; try clear c14; try clear c15; try clear c16; try clear c17; try clear c18; try clear c18b0; try clear c18b1; try clear c18b2; try clear c19; try clear c19b0; try clear c19b1; try clear c20; try clear c20b0; try clear c20b1; try clear c20b2; try clear c21; try clear c21b0; try clear c21b1; try clear c22; try clear c22b0; try clear c22b1; try clear c22b2; try clear c23; try clear c23b0; try clear c23b1; try clear c24; try clear c24b0; try clear c24b1; try clear c24b2; try clear c25; try clear c26; try clear c28; try clear c31; try clear c31b0; try clear c33; try clear c35; try clear c36; try clear c36b0; try clear c36b1; try clear c37; try clear c37b0; try clear c37b1; try clear c38; try clear c38b0; try clear c40; try clear c42; try clear c42b0; try clear c43; try clear c43b0; try clear c44; try clear c45; try clear c45b0; try clear c47; try clear c48; try clear c48b0; try clear p64; try clear c81; try clear c81b0; try clear c81b1; try clear c81b2; try clear c82; try clear c82b0; try clear c82b1; try clear c83; try clear c83b0; try clear c83b1; try clear c83b2; try clear c84; try clear c84b0; try clear c84b1; try clear c85; try clear c85b0; try clear c85b1; try clear c86; try clear c86b0; try clear c86b1; try clear c86b2; try clear c87; try clear c87b0; try clear c87b1; try clear c88; try clear c88b0; try clear c88b1; try clear c88b2; try clear c89; try clear c89b0; try clear c89b1; try clear c90; try clear c90b0; try clear c90b1; try clear c90b2; try clear c94; try clear c96; try clear c100; try clear c101; try clear c102; try clear c102b0; try clear c104; try clear c105; try clear c105b0; try clear p2; try clear p6
    obtain ⟨kq, HA, HJ94, HO_45, HO_51, HB⟩ := hcut
    rename_i K1 a1
    exact nx l1 w HE HG t422 t423 t424 t425 t429 t430 t431 t434 t437 t438 t441 t442 t443 v444 Ao75 co75 kq wc HA HO_45 HO_51 HB _ _ _ _ _ _ _ _ _ _ _ _ _ _ _ _ _ _ _ _ _ _ _ _ _ _ _ _ _ _ _ _ _ _ _ _ _ _ _ _ _ _ _ _ _ _ _ _ _ _ _ _ _ _ _ _ _ _ _ _ _ _ _ _ _ _ _ _ _ _ _ _ _ _ _ _ _ _ _ _ _ _ _ _ _ _ _ _ _ _ _ _ _ _ _ _ _ _ _ _ _ _ _ _ _ _ _ _ _ _ _ _ _ _ _ _ _ _ _ _ _ _ _ _ _ _ _ _ _ _ _ _ _ _ _ _ _ _ _ _ _ _ _ _ _ _ _ _ _ _ _ _ _ _ _ _ _ _ _ _ _ _ _ _ _ _ _ _ _ _ _ _ _ _ _ _ _ _ _ _ _ _ _ _ _ _ _ _ _ _ _ _ _ _ _ _ _ _ _ _ _ _ _ _ _ _ _ _ _ _ _ _ _ _ _ _ _ _ _ _ _ _ _ _ _ _ _ _ _ _ _ _ _ _ _ _ _ _ _ _ _ _ _ _ _ _ _ _ _ _ _ _ _ _ _ _ _ _ _ _ _ _ _ _ _ _ _ _ _ _ _ _ _ _ _ _ _ _ _ _ _ _ _ _ _ _ _ _ _ _ _ _ _ _ _ _ _ _ _ _ _ _ _ _ _ _ _ _ _ _ _ _ _ _ _ _ _ _ _ _ _ _ _ _ _ _ _ _ _ _ _ _ _ _ _ _ _ _ _ _ _ _ _ _ _ _ _ _ _ _ _ _ _ _ _ _ _ _ _ _ _ _ _ _ _ _ _ _ _ _ _ _ _ _ _ _ _ _ _ _ _ _ _ _ _ _ _ _ _ _ _ _ _ _ _ _ _ _ _ _ _ _ _ _ _ _ _ _ _ _ _ _ _ _ _ _ _ _ _ _ _ _ _ _ _ _ _ _ _ _ _ _ _ _ _ _ _ _ _ _ _ _ K1 a1

end Go.Proofs.YtjkfgeigicljpaaGreatDoor.PFnPagesNumbered
