-- WRITTEN BY A PROGRAM OF THIS SESSION (xprint), out of the translation: not trusted: it is checked as any text
import Derived.Test.YtjkfgeigicljpaaGreatDoorPFnPagesNumberedx13
namespace Go.Proofs.YtjkfgeigicljpaaGreatDoor.PFnPagesNumbered
open Go.RowKit Go.Proofs.YtjkfgeigicljpaaGreatDoorW.PrintWords Go.Proofs.YtjkfgeigicljpaaGreatDoorW.PrintLast Go.Proofs.YtjkfgeigicljpaaGreatDoorW.PrintMore
attribute [local go_sem] max2_int min2_int max_two min_two max_three min_three max_four min_four
set_option linter.unusedVariables false
set_option linter.unusedSimpArgs false

set_option maxHeartbeats 40000000 in
set_option maxRecDepth 1000000 in
theorem laws_FnPagesNumbered.p9 (nx : laws_FnPagesNumbered.P10) : laws_FnPagesNumbered.P9 := by
 unfold laws_FnPagesNumbered.P9
 intro k l0 A1 c1 l1 w HE HG HR1 HC1 t396 t397 t398 t399 t402 t406 t407 kq x150_11 wc HA HB _ _ _ _ _ _ _ _ _ _ _ _ _ _ _ _ _ _ _ _ _ _ _ _ _ _ _ _ _ _ _ _ _ _ _ _ _ _ _ _ _ _ _ _ _ _ _ _ _ _ _ _ _ _ _ _ _ _ _ _ _ _ _ _ _ _ _ _ _ _ _ _ _ _ _ _ _ _ _ _ _ _ _ _ _ _ _ _ _ _ _ _ _ _ _ _ _ _ _ _ _ _ _ _ _ _ _ _ _ _ _ _ _ _ _ _ _ _ _ _ _ _ _ _ _ _ _ _ _ _ _ _ _ _ _ _ _ _ _ _ _ _ _ _ _ _ _ _ _ _ _ _ _ _ _ _ _ _ _ _ _ _ _ _ _ _ _ _ _ _ _ _ _ _ _ _ _ _ _ _ _ _ _ _ _ _ _ _ _ _ _ _ _ _ _ _ _ _ _ _ _ _ _ _ _ _ _ _ _ _ _ _ _ _ _ _ _ _ _ _ _ _ _ _ _ _ _ _ _ _ _ _ _ _ _ _ _ _ _ _ _ _ _ _ _ _ _ _ _ _ _ _ _ _ _ _ _ _ _ _ _ _ _ _ _ _ _ _ _ _ _ _ _ _ _ _ _ _ _ _ _ _ _ _ _ _ _ _ _ _ _ _ _ _ _ _ _ _ _ _ _ _ _ _ _ _ _ _ _ _ _ _ _ _ _ _ _ _ _ _ _ _ _ _ _ _ _ _ _ _ _ _ _ _ _ _ _ _ _ _ _ _ _ _ _ _ _ _ _ _ _ _ _ _ _ _ _ _ _ _ _ _ _ _ _ _ _ _ _ _ _ _ _ _ _ _ _ _ _ _ _ _ _ _ _ _ _ _ _ _ _ _ _ _ _ _ _ _ _ _ _ _ _ _ _ _ _ _ _ _ _ _ _ _ _ _ _ _ _ _ _ _ _ _ _ _ _ _ _ _ _ _ _ _ _ _ _ _ _ _ _ _ _ _ _ _ Q' K1 a1 K0 a0
 conv at a1 => intro a w; lhs; arg 2; whnf
 conv at a0 => intro a w; lhs; arg 2; whnf
 try dsimp only
 cases kq with
 | zero => exact absurd HA.out (by simp [laws_FnPagesNumbered.j0])
 | succ kj11 =>
  have H := HA.out
  clear HA
  simp only [laws_FnPagesNumbered.j0] at H
  by_cases c26 : x150_11 = true
  ·subst c26
   rw [if_pos rfl] at H
   exact absurd H (by simp)
  ·replace c26 := Bool.eq_false_iff.mpr c26
   subst c26
   rw [if_neg (show ¬ (false = true) by decide)] at H
   have HC27 := Aside0.mk H
   clear H
   go_upto_if 151 with (fail)
   go_cut [] from 151 to 151 (fun wc => ∃ (kq : Nat), Aside0 (laws_FnPagesNumbered.j2 kq l1 t396 t397 t398 t399 t402 t406 = some true) ∧ Aside0 (kq ≤ kj11) ∧ Aside0 (Below w.heap.size w wc))
   case first =>
    try clear A3; try clear A5; try clear A6; try clear A7; try clear A8; try clear A9; try clear A10; try clear A11
    (try simp only [List.append_eq, List.cons_append, List.nil_append])
    have H := HC27.out
    clear HC27
    by_cases c28 : t407 = true
    ·subst c28
     rw [if_pos rfl] at H
     replace H := Xs.mp H
     obtain ⟨⟨t410, t411⟩, A290, H⟩ := H
     (try dsimp only at H)
     have A29 := Aside0.mk A290
     clear A290
     have H' := Aside0.mk H
     clear H
     go_wp2_with (first | ((with_reducible refine gate_callee (f := 12) rfl ?_); refine goesL_ (some 154) rfl rfl Tryz.func12 (by kernel_rfl) rfl #[.int .i64 t406] rfl (by (try simp only [Xp, Xq, Xr]); first | done | rfl) ?_; (with_reducible refine (impl_PagesForDigits.calls kj11 t406 t410 t411 _ (by exact strconv_Itoa.tab HG.out (by repeat (with_reducible first | exact HB.out | apply Xc | apply Xa | apply Xb))) A29.out).mono ?_); rintro e w30 ⟨rfl, hb⟩; refine ⟨_, rfl, ?_⟩; replace HB := Aside0.mk (Xd (by repeat (with_reducible first | exact HB.out | apply Xc | apply Xa | apply Xb)) hb); (try clear hb)))
     go_loopg [21, 22] kj11 (fun kq v21 v22 w' => ∃ (x21_2 : Int) (x22_2 : Int), v21 = .int .i64 x21_2 ∧ v22 = .int .i64 x22_2 ∧ Aside0 (laws_FnPagesNumbered.l0 kq l1 t396 t397 t398 t399 t402 t406 t410 t411 x21_2 x22_2 = some true) ∧ Aside0 (kq ≤ kj11) ∧ Aside0 (Below w.heap.size w w'))
     case atStart => exact ⟨(0), (0), (by first | rfl | simp | simp [*]), (by first | rfl | simp | simp [*]), H', ⟨Nat.le_refl _⟩, ⟨by repeat (with_reducible first | exact HB.out | apply Xc | apply Xa | apply Xb)⟩⟩
     case round =>
      clear H'
      try clear p2; try clear c10; try clear c11; try clear c12; try clear c18; try clear c18b0; try clear c18b1; try clear c18b2; try clear c19; try clear c19b0; try clear c19b1; try clear c20; try clear c20b0; try clear c20b1; try clear c20b2; try clear c21; try clear c21b0; try clear c21b1; try clear c22; try clear c22b0; try clear c22b1; try clear c22b2; try clear c23; try clear c23b0; try clear c23b1; try clear c24; try clear c24b0; try clear c24b1; try clear c24b2; try clear c25; try clear c26; try clear c28; try clear p2
      obtain ⟨x21_2, x22_2, rfl, rfl, HA, HK2, HB⟩ := hrel
      cases gk with
      | zero => exact absurd HA.out (by simp [laws_FnPagesNumbered.l0])
      | succ k2 =>
       have H := HA.out
       clear HA
       simp only [laws_FnPagesNumbered.l0] at H
       by_cases c31 : x22_2 < 10
       ·rw [if_pos c31] at H
        have c31b0 : decide (x22_2 < 10) = true := decide_eq_true c31
        clear c31
        (first | rw [c31b0] | (simp only [i64_w, i32_w]; rw [c31b0]) | skip)
        replace H := Xs.mp H
        obtain ⟨⟨t412, t413⟩, A320, H⟩ := H
        (try dsimp only at H)
        have A32 := Aside0.mk A320
        clear A320
        by_cases c33 : t413 = true
        ·subst c33
         rw [if_pos rfl] at H
         have H' := Aside0.mk H
         clear H
         go_wp2_with (first | ((with_reducible refine gate_callee (f := 6) rfl ?_); refine goesL_ (some 164) rfl rfl Tryz.func6 (by kernel_rfl) rfl #[.int .i64 t396, .int .i64 x22_2] rfl (by (try simp only [Xp, Xq, Xr]); first | done | rfl) ?_; (with_reducible refine (impl_CountDigit.calls k2 t396 x22_2 t412 true _ (by exact strconv_Itoa.tab HG.out (by repeat (with_reducible first | exact HB.out | apply Xc | apply Xa | apply Xb))) A32.out).mono ?_); rintro e w34 ⟨rfl, hb⟩; refine ⟨_, rfl, ?_⟩; replace HB := Aside0.mk (Xd (by repeat (with_reducible first | exact HB.out | apply Xc | apply Xa | apply Xb)) hb); (try clear hb)))
         go_roundg k2
         case measure => have := HK2.out; omega
         case rel => exact ⟨(wrap64 (x21_2 + t412)), (wrap64 (x22_2 + 1)), (by first | rfl | simp | simp [*]), (by first | rfl | simp | simp [*]), H', ⟨by have := HK2.out; omega⟩, ⟨by repeat (with_reducible first | exact HB.out | apply Xc | apply Xa | apply Xb)⟩⟩
        ·replace c33 := Bool.eq_false_iff.mpr c33
         subst c33
         rw [if_neg (show ¬ (false = true) by decide)] at H
         exact absurd H (by simp)
       ·rw [if_neg c31] at H
        have c31b0 : decide (x22_2 < 10) = false := decide_eq_false c31
        clear c31
        (first | rw [c31b0] | (simp only [i64_w, i32_w]; rw [c31b0]) | skip)
        by_cases c35 : t411 = true
        ·subst c35
         rw [if_pos rfl] at H
         by_cases c36 : t410 = t396
         ·rw [if_pos c36] at H
          replace c36 := c36.symm
          subst c36
          by_cases c37 : x21_2 = t406
          ·rw [if_pos c37] at H
           have c37b0 : (x21_2 == t406) = true := beq_iff_eq.mpr c37
           have c37b1 : (x21_2 != t406) = false := bne_eq_false_iff_eq.mpr c37
           clear c37
           by_cases c38 : t406 < t396
           ·rw [if_pos c38] at H
            have c38b0 : decide (t406 < t396) = true := decide_eq_true c38
            clear c38
            exact absurd H (by simp)
           ·rw [if_neg c38] at H
            have c38b0 : decide (t406 < t396) = false := decide_eq_false c38
            clear c38
            have H' := Aside0.mk H
            clear H
            go_wp2
            go_meet
            case rel => exact ⟨_, H', ⟨by have := HK2.out; first | omega | exact Nat.le_refl _⟩, ⟨by repeat (with_reducible first | exact HB.out | apply Xc | apply Xa | apply Xb)⟩⟩
          ·rw [if_neg c37] at H
           have c37b0 : (x21_2 == t406) = false := beq_eq_false_iff_ne.mpr c37
           have c37b1 : (x21_2 != t406) = true := bne_iff_ne.mpr c37
           exact absurd H (by simp)
         ·rw [if_neg c36] at H
          have c36b0 : (t410 == t396) = false := beq_eq_false_iff_ne.mpr c36
          have c36b1 : (t410 != t396) = true := bne_iff_ne.mpr c36
          exact absurd H (by simp)
        ·replace c35 := Bool.eq_false_iff.mpr c35
         subst c35
         rw [if_neg (show ¬ (false = true) by decide)] at H
         exact absurd H (by simp)
    ·replace c28 := Bool.eq_false_iff.mpr c28
     subst c28
     rw [if_neg (show ¬ (false = true) by decide)] at H
     have H' := Aside0.mk H
     clear H
     go_wp2
     go_meet
     case rel => exact ⟨_, H', ⟨by first | omega | exact Nat.le_refl _⟩, ⟨by repeat (with_reducible first | exact HB.out | apply Xc | apply Xa | apply Xb)⟩⟩
   case rest =>
    clear HC27
    try clear p2; try clear p6; try clear c10; try clear c11; try clear c12; try clear c18; try clear c18b0; try clear c18b1; try clear c18b2; try clear c19; try clear c19b0; try clear c19b1; try clear c20; try clear c20b0; try clear c20b1; try clear c20b2; try clear c21; try clear c21b0; try clear c21b1; try clear c22; try clear c22b0; try clear c22b1; try clear c22b2; try clear c23; try clear c23b0; try clear c23b1; try clear c24; try clear c24b0; try clear c24b1; try clear c24b2; try clear c25; try clear c26; try clear c28; try clear c31; try clear c31b0; try clear c33; try clear c35; try clear c36; try clear c36b0; try clear c36b1; try clear c37; try clear c37b0; try clear c37b1; try clear c38; try clear c38b0; try clear p2
    obtain ⟨kq, HA, HJ26, HB⟩ := hcut
    rename_i K1 a1
    exact nx A1 c1 l1 w HE HG HR1 HC1 t396 t397 t398 t399 t402 t406 kq wc HA HB _ _ _ _ _ _ _ _ _ _ _ _ _ _ _ _ _ _ _ _ _ _ _ _ _ _ _ _ _ _ _ _ _ _ _ _ _ _ _ _ _ _ _ _ _ _ _ _ _ _ _ _ _ _ _ _ _ _ _ _ _ _ _ _ _ _ _ _ _ _ _ _ _ _ _ _ _ _ _ _ _ _ _ _ _ _ _ _ _ _ _ _ _ _ _ _ _ _ _ _ _ _ _ _ _ _ _ _ _ _ _ _ _ _ _ _ _ _ _ _ _ _ _ _ _ _ _ _ _ _ _ _ _ _ _ _ _ _ _ _ _ _ _ _ _ _ _ _ _ _ _ _ _ _ _ _ _ _ _ _ _ _ _ _ _ _ _ _ _ _ _ _ _ _ _ _ _ _ _ _ _ _ _ _ _ _ _ _ _ _ _ _ _ _ _ _ _ _ _ _ _ _ _ _ _ _ _ _ _ _ _ _ _ _ _ _ _ _ _ _ _ _ _ _ _ _ _ _ _ _ _ _ _ _ _ _ _ _ _ _ _ _ _ _ _ _ _ _ _ _ _ _ _ _ _ _ _ _ _ _ _ _ _ _ _ _ _ _ _ _ _ _ _ _ _ _ _ _ _ _ _ _ _ _ _ _ _ _ _ _ _ _ _ _ _ _ _ _ _ _ _ _ _ _ _ _ _ _ _ _ _ _ _ _ _ _ _ _ _ _ _ _ _ _ _ _ _ _ _ _ _ _ _ _ _ _ _ _ _ _ _ _ _ _ _ _ _ _ _ _ _ _ _ _ _ _ _ _ _ _ _ _ _ _ _ _ _ _ _ _ _ _ _ _ _ _ _ _ _ _ _ _ _ _ _ _ _ _ _ _ _ _ _ _ _ _ _ _ _ _ _ _ _ _ _ _ _ _ _ _ _ _ _ _ _ _ _ _ _ _ _ _ _ _ _ _ _ _ _ _ _ _ _ _ _ _ _ _ _ _ _ _ _ _ _ _ _ _ K1 a1

end Go.Proofs.YtjkfgeigicljpaaGreatDoor.PFnPagesNumbered
