-- WRITTEN BY A PROGRAM OF THIS SESSION (xprint), out of the translation: not trusted: it is checked as any text
import Derived.Test.YtjkfgeigicljpaaGreatDoorPFnPagesNumberedx13
namespace Go.Proofs.YtjkfgeigicljpaaGreatDoor.PFnPagesNumbered
open Go.RowKit Go.Proofs.YtjkfgeigicljpaaGreatDoorW.PrintWords Go.Proofs.YtjkfgeigicljpaaGreatDoorW.PrintLast Go.Proofs.YtjkfgeigicljpaaGreatDoorW.PrintMore
attribute [local go_sem] max2_int min2_int max_two min_two max_three min_three max_four min_four
set_option linter.unusedVariables false
set_option linter.unusedSimpArgs false

set_option maxHeartbeats 40000000 in
set_option maxRecDepth 1000000 in
theorem laws_FnPagesNumbered.p10 (nx : laws_FnPagesNumbered.P11) : laws_FnPagesNumbered.P10 := by
 unfold laws_FnPagesNumbered.P10
 intro A1 c1 l1 w HE HG HR1 HC1 t396 t397 t398 t399 t402 t406 kq wc HA HB _ _ _ _ _ _ _ _ _ _ _ _ _ _ _ _ _ _ _ _ _ _ _ _ _ _ _ _ _ _ _ _ _ _ _ _ _ _ _ _ _ _ _ _ _ _ _ _ _ _ _ _ _ _ _ _ _ _ _ _ _ _ _ _ _ _ _ _ _ _ _ _ _ _ _ _ _ _ _ _ _ _ _ _ _ _ _ _ _ _ _ _ _ _ _ _ _ _ _ _ _ _ _ _ _ _ _ _ _ _ _ _ _ _ _ _ _ _ _ _ _ _ _ _ _ _ _ _ _ _ _ _ _ _ _ _ _ _ _ _ _ _ _ _ _ _ _ _ _ _ _ _ _ _ _ _ _ _ _ _ _ _ _ _ _ _ _ _ _ _ _ _ _ _ _ _ _ _ _ _ _ _ _ _ _ _ _ _ _ _ _ _ _ _ _ _ _ _ _ _ _ _ _ _ _ _ _ _ _ _ _ _ _ _ _ _ _ _ _ _ _ _ _ _ _ _ _ _ _ _ _ _ _ _ _ _ _ _ _ _ _ _ _ _ _ _ _ _ _ _ _ _ _ _ _ _ _ _ _ _ _ _ _ _ _ _ _ _ _ _ _ _ _ _ _ _ _ _ _ _ _ _ _ _ _ _ _ _ _ _ _ _ _ _ _ _ _ _ _ _ _ _ _ _ _ _ _ _ _ _ _ _ _ _ _ _ _ _ _ _ _ _ _ _ _ _ _ _ _ _ _ _ _ _ _ _ _ _ _ _ _ _ _ _ _ _ _ _ _ _ _ _ _ _ _ _ _ _ _ _ _ _ _ _ _ _ _ _ _ _ _ _ _ _ _ _ _ _ _ _ _ _ _ _ _ _ _ _ _ _ _ _ _ _ _ _ _ _ _ _ _ _ _ _ _ _ _ _ _ _ _ _ _ _ _ _ _ _ _ _ _ _ _ _ _ _ _ _ _ _ _ _ _ _ _ _ _ _ _ _ _ _ _ _ _ _ _ _ Q' K1 a1
 conv at a1 => intro a w; lhs; arg 2; whnf
 try dsimp only
 cases kq with
 | zero => exact absurd HA.out (by simp [laws_FnPagesNumbered.j2])
 | succ kj26 =>
  have H := HA.out
  clear HA
  simp only [laws_FnPagesNumbered.j2] at H
  have HC39 := Aside0.mk H
  clear H
  go_upto_if 189 with (fail)
  go_cut [] from 152 to 189 (fun wc => ∃ (kq : Nat), Aside0 (laws_FnPagesNumbered.j4 kq l1 = some true) ∧ Aside0 (kq ≤ kj26) ∧ Aside0 (Below w.heap.size w wc))
  case first =>
   try clear A3; try clear A5; try clear A6; try clear A7; try clear A8; try clear A9; try clear A10; try clear A11; try clear A29; try clear A32
   (try simp only [List.append_eq, List.cons_append, List.nil_append])
   have H := HC39.out
   clear HC39
   by_cases c40 : t399 = true
   ·subst c40
    rw [if_pos rfl] at H
    have HC41 := Aside0.mk H
    clear H
    go_upto_region 25 with (fail)
    go_cut [202] from 190 to 202 (fun v202 wc => ∃ (kq : Nat) (x202_40 : Bool), v202 = .bool x202_40 ∧ Aside0 (laws_FnPagesNumbered.j3 kq l1 t396 t397 t398 x202_40 = some true) ∧ Aside0 (kq ≤ kj26) ∧ Aside0 (Below w.heap.size w wc))
    case first =>
     try clear A3; try clear A5; try clear A6; try clear A7; try clear A8; try clear A9; try clear A10; try clear A11; try clear A29; try clear A32
     (try simp only [List.append_eq, List.cons_append, List.nil_append])
     have H := HC41.out
     clear HC41
     by_cases c42 : t402 > t398
     ·rw [if_pos c42] at H
      have c42b0 : decide (t398 < t402) = true := decide_eq_true c42
      clear c42
      (first | rw [c42b0] | (simp only [i64_w, i32_w]; rw [c42b0]) | skip)
      exact absurd H laws_FnPagesNumbered.j3_dead
     ·rw [if_neg c42] at H
      have c42b0 : decide (t398 < t402) = false := decide_eq_false c42
      clear c42
      (first | rw [c42b0] | (simp only [i64_w, i32_w]; rw [c42b0]) | skip)
      by_cases c43 : t398 > t406
      ·rw [if_pos c43] at H
       have c43b0 : decide (t406 < t398) = true := decide_eq_true c43
       clear c43
       exact absurd H laws_FnPagesNumbered.j3_dead
      ·rw [if_neg c43] at H
       have c43b0 : decide (t406 < t398) = false := decide_eq_false c43
       clear c43
       have H' := Aside0.mk H
       clear H
       go_wp2
       go_meet
       case rel => exact ⟨_, (decide (t402 > t396)), (by first | rfl | simp | simp [*]), H', ⟨by first | omega | exact Nat.le_refl _⟩, ⟨by repeat (with_reducible first | exact HB.out | apply Xc | apply Xa | apply Xb)⟩⟩
    case rest =>
     clear HC41
     try clear p2; try clear p6; try clear c10; try clear c11; try clear c12; try clear c18; try clear c18b0; try clear c18b1; try clear c18b2; try clear c19; try clear c19b0; try clear c19b1; try clear c20; try clear c20b0; try clear c20b1; try clear c20b2; try clear c21; try clear c21b0; try clear c21b1; try clear c22; try clear c22b0; try clear c22b1; try clear c22b2; try clear c23; try clear c23b0; try clear c23b1; try clear c24; try clear c24b0; try clear c24b1; try clear c24b2; try clear c25; try clear c26; try clear c28; try clear c31; try clear c31b0; try clear c33; try clear c35; try clear c36; try clear c36b0; try clear c36b1; try clear c37; try clear c37b0; try clear c37b1; try clear c38; try clear c38b0; try clear c40; try clear c42; try clear c42b0; try clear c43; try clear c43b0; try clear p2; try clear p6
     obtain ⟨kq, x202_40, rfl, HA, HJ40, HB⟩ := hcut
     cases kq with
     | zero => exact absurd HA.out (by simp [laws_FnPagesNumbered.j3])
     | succ kj40 =>
      have H := HA.out
      clear HA
      simp only [laws_FnPagesNumbered.j3] at H
      by_cases c44 : x202_40 = true
      ·subst c44
       rw [if_pos rfl] at H
       exact absurd H (by simp)
      ·replace c44 := Bool.eq_false_iff.mpr c44
       subst c44
       rw [if_neg (show ¬ (false = true) by decide)] at H
       by_cases c45 : t398 ≤ 2000
       ·rw [if_pos c45] at H
        have c45b0 : decide (t398 ≤ 2000) = true := decide_eq_true c45
        clear c45
        replace H := Xs.mp H
        obtain ⟨⟨t414, t415⟩, A460, H⟩ := H
        (try dsimp only at H)
        have A46 := Aside0.mk A460
        clear A460
        by_cases c47 : t415 = true
        ·subst c47
         rw [if_pos rfl] at H
         by_cases c48 : t414 < t396
         ·rw [if_pos c48] at H
          have c48b0 : decide (t414 < t396) = true := decide_eq_true c48
          clear c48
          exact absurd H (by simp)
         ·rw [if_neg c48] at H
          have c48b0 : decide (t414 < t396) = false := decide_eq_false c48
          clear c48
          have H' := Aside0.mk H
          clear H
          go_wp2_with (first | ((with_reducible refine gate_callee (f := 13) rfl ?_); refine goesL_ (some 208) rfl rfl Tryz.func13 (by kernel_rfl) rfl #[.int .i64 t397, .int .i64 t398] rfl (by (try simp only [Xp, Xq, Xr]); first | done | rfl) ?_; (with_reducible refine (impl_PagesForTypes.calls kj40 t397 t398 t414 true _ (by exact strconv_Itoa.tab HG.out (by repeat (with_reducible first | exact HB.out | apply Xc | apply Xa | apply Xb))) A46.out).mono ?_); rintro e w49 ⟨rfl, hb⟩; refine ⟨_, rfl, ?_⟩; replace HB := Aside0.mk (Xd (by repeat (with_reducible first | exact HB.out | apply Xc | apply Xa | apply Xb)) hb); (try clear hb)))
          go_meet
          case rel => exact ⟨_, H', ⟨by have := HJ40.out; first | omega | exact Nat.le_refl _⟩, ⟨by repeat (with_reducible first | exact HB.out | apply Xc | apply Xa | apply Xb)⟩⟩
        ·replace c47 := Bool.eq_false_iff.mpr c47
         subst c47
         rw [if_neg (show ¬ (false = true) by decide)] at H
         exact absurd H (by simp)
       ·rw [if_neg c45] at H
        have c45b0 : decide (t398 ≤ 2000) = false := decide_eq_false c45
        clear c45
        have H' := Aside0.mk H
        clear H
        go_wp2
        go_meet
        case rel => exact ⟨_, H', ⟨by have := HJ40.out; first | omega | exact Nat.le_refl _⟩, ⟨by repeat (with_reducible first | exact HB.out | apply Xc | apply Xa | apply Xb)⟩⟩
   ·replace c40 := Bool.eq_false_iff.mpr c40
    subst c40
    rw [if_neg (show ¬ (false = true) by decide)] at H
    have H' := Aside0.mk H
    clear H
    go_wp2
    go_meet
    case rel => exact ⟨_, H', ⟨by first | omega | exact Nat.le_refl _⟩, ⟨by repeat (with_reducible first | exact HB.out | apply Xc | apply Xa | apply Xb)⟩⟩
  case rest =>
   clear HC39
   try clear p2; try clear p6; try clear c10; try clear c11; try clear c12; try clear c13; try clear c18; try clear c18b0; try clear c18b1; try clear c18b2; try clear c19; try clear c19b0; try clear c19b1; try clear c20; try clear c20b0; try clear c20b1; try clear c20b2; try clear c21; try clear c21b0; try clear c21b1; try clear c22; try clear c22b0; try clear c22b1; try clear c22b2; try clear c23; try clear c23b0; try clear c23b1; try clear c24; try clear c24b0; try clear c24b1; try clear c24b2; try clear c25; try clear c26; try clear c28; try clear c31; try clear c31b0; try clear c33; try clear c35; try clear c36; try clear c36b0; try clear c36b1; try clear c37; try clear c37b0; try clear c37b1; try clear c38; try clear c38b0; try clear c40; try clear c42; try clear c42b0; try clear c43; try clear c43b0; try clear c44; try clear c45; try clear c45b0; try clear c47; try clear c48; try clear c48b0; try clear p2; try clear p6
   obtain ⟨kq, HA, HJ38, HB⟩ := hcut
   rename_i K1 a1
   exact nx A1 c1 l1 w HE HG HR1 HC1 kq wc HA HB _ _ _ _ _ _ _ _ _ _ _ _ _ _ _ _ _ _ _ _ _ _ _ _ _ _ _ _ _ _ _ _ _ _ _ _ _ _ _ _ _ _ _ _ _ _ _ _ _ _ _ _ _ _ _ _ _ _ _ _ _ _ _ _ _ _ _ _ _ _ _ _ _ _ _ _ _ _ _ _ _ _ _ _ _ _ _ _ _ _ _ _ _ _ _ _ _ _ _ _ _ _ _ _ _ _ _ _ _ _ _ _ _ _ _ _ _ _ _ _ _ _ _ _ _ _ _ _ _ _ _ _ _ _ _ _ _ _ _ _ _ _ _ _ _ _ _ _ _ _ _ _ _ _ _ _ _ _ _ _ _ _ _ _ _ _ _ _ _ _ _ _ _ _ _ _ _ _ _ _ _ _ _ _ _ _ _ _ _ _ _ _ _ _ _ _ _ _ _ _ _ _ _ _ _ _ _ _ _ _ _ _ _ _ _ _ _ _ _ _ _ _ _ _ _ _ _ _ _ _ _ _ _ _ _ _ _ _ _ _ _ _ _ _ _ _ _ _ _ _ _ _ _ _ _ _ _ _ _ _ _ _ _ _ _ _ _ _ _ _ _ _ _ _ _ _ _ _ _ _ _ _ _ _ _ _ _ _ _ _ _ _ _ _ _ _ _ _ _ _ _ _ _ _ _ _ _ _ _ _ _ _ _ _ _ _ _ _ _ _ _ _ _ _ _ _ _ _ _ _ _ _ _ _ _ _ _ _ _ _ _ _ _ _ _ _ _ _ _ _ _ _ _ _ _ _ _ _ _ _ _ _ _ _ _ _ _ _ _ _ _ _ _ _ _ _ _ _ _ _ _ _ _ _ _ _ _ _ _ _ _ _ _ _ _ _ _ _ _ _ _ _ _ _ _ _ _ _ _ _ _ _ _ _ _ _ _ _ _ _ _ _ _ _ _ _ _ _ _ _ _ _ _ _ _ _ _ _ _ _ _ _ _ _ _ _ _ _ _ _ _ _ _ _ K1 a1

end Go.Proofs.YtjkfgeigicljpaaGreatDoor.PFnPagesNumbered
