-- WRITTEN BY A PROGRAM OF THIS SESSION (xprint), out of the translation: not trusted: it is checked as any text
import Derived.Test.YtjkfgeigicljpaaPFnFoldsStackx8
namespace Go.Proofs.Ytjkfgeigicljpaa.PFnFoldsStack
open Go.RowKit Go.Proofs.YtjkfgeigicljpaaW.PrintWords Go.Proofs.YtjkfgeigicljpaaW.PrintLast Go.Proofs.YtjkfgeigicljpaaW.PrintMore
attribute [local go_sem] max2_int min2_int max_two min_two max_three min_three max_four min_four   -- for this text's walks alone
set_option linter.unusedVariables false
set_option linter.unusedSimpArgs false

set_option maxHeartbeats 40000000 in
set_option maxRecDepth 1000000 in
theorem laws_FnFoldsStack.p15 (nx : laws_FnFoldsStack.P16) : laws_FnFoldsStack.P15 := by
 unfold laws_FnFoldsStack.P15
 intro A1 c1 l1 w HR1 HC1 t350 t371 t375 t376 kq x340_141 wc HA HB _ _ _ _ _ _ _ _ _ _ _ _ _ _ _ _ _ _ _ _ _ _ _ _ _ _ _ _ _ _ _ _ _ _ _ _ _ _ _ _ _ _ _ _ _ _ _ _ _ _ _ _ _ _ _ _ _ _ _ _ _ _ _ _ _ _ _ _ _ _ _ _ _ _ _ _ _ _ _ _ _ _ _ _ _ _ _ _ _ _ _ _ _ _ _ _ _ _ _ _ _ _ _ _ _ _ _ _ _ _ _ _ _ _ _ _ _ _ _ _ _ _ _ _ _ _ _ _ _ _ _ _ _ _ _ _ _ _ _ _ _ _ _ _ _ _ _ _ _ _ _ _ _ _ _ _ _ _ _ _ _ _ _ _ _ _ _ _ _ _ _ _ _ _ _ _ _ _ _ _ _ _ _ _ _ _ _ _ _ _ _ _ _ _ _ _ _ _ _ _ _ _ _ _ _ _ _ _ _ _ _ _ _ _ _ _ _ _ _ _ _ _ _ _ _ _ _ _ _ _ _ _ _ _ _ _ _ _ _ _ _ _ _ _ _ _ _ _ _ _ _ _ _ _ _ _ _ _ _ _ _ _ _ _ _ _ _ _ _ _ _ _ _ _ _ _ _ _ _ _ _ _ _ _ _ _ _ _ _ _ _ _ _ _ _ _ _ _ _ _ _ _ _ _ _ _ _ _ _ _ _ _ _ _ _ _ _ _ _ _ _ _ _ _ _ _ _ _ _ _ _ _ _ _ _ _ _ _ _ _ _ _ _ _ _ _ _ _ _ _ _ _ _ _ _ _ _ _ _ _ _ _ _ _ _ _ _ _ _ _ _ _ _ _ _ _ _ _ _ _ _ _ _ _ _ _ _ _ _ _ _ _ _ _ _ _ _ _ _ _ _ _ _ _ _ _ _ _ _ _ _ _ _ _ _ _ _ _ _ _ _ _ _ _ _ _ _ _ _ _ _ _ _ _ _ _ _ _ _ _ _ _ _ _ _ _ _ _ _ _ _ _ _ _ _ _ _ _ _ _ _ _ _ _ _ _ _ _ _ _ _ _ _ _ _ _ _ _ _ _ _ _ _ _ _ _ _ _ _ _ _ _ _ _ _ _ _ _ _ _ _ _ _ _ _ _ _ _ _ _ _ _ _ _ _ _ _ _ _ _ _ _ _ _ _ _ _ _ _ _ _ _ _ _ _ _ _ _ _ _ _ _ _ _ _ _ _ _ _ _ _ _ _ _ _ _ _ _ _ _ _ _ _ _ _ _ _ _ _ _ _ _ _ _ _ _ _ _ _ _ _ _ _ _ _ _ _ _ _ _ _ _ _ _ _ _ _ _ _ _ _ _ _ _ _ _ _ _ _ _ _ _ _ _ _ _ _ _ _ _ _ _ _ _ _ _ _ _ _ _ _ _ _ _ _ _ _ _ _ _ _ _ _ _ _ _ _ _ _ _ _ _ _ _ _ Q' K1 a1 K0 a0
 conv at a1 => intro a w; lhs; arg 2; whnf
 conv at a0 => intro a w; lhs; arg 2; whnf
 try dsimp only
 cases kq with
 | zero => exact absurd HA.out (by simp [laws_FnFoldsStack.j6])
 | succ kj141 =>
  have H := HA.out
  clear HA
  simp only [laws_FnFoldsStack.j6] at H
  by_cases c154 : x340_141 = true
  ·subst c154
   rw [if_pos rfl] at H
   exact absurd H (by simp)
  ·replace c154 := Bool.eq_false_iff.mpr c154
   subst c154
   rw [if_neg (show ¬ (false = true) by decide)] at H
   have HC155 := Aside0.mk H
   clear H
   go_upto_region 41 with (fail)
   repeat (go_quiet (fail); go_upto_region 41 with (fail))
   go_cut [350] from 341 to 350 (fun v350 wc => ∃ (kq : Nat) (x350_154 : Bool), v350 = .bool x350_154 ∧ Aside0 (laws_FnFoldsStack.j7 kq l1 x350_154 = some true) ∧ Aside0 (kq ≤ kj141) ∧ Aside0 (Below w.heap.size w wc))
   case first =>
    try clear A3; try clear A5; try clear A6; try clear A7; try clear A8; try clear A9; try clear A10; try clear A11; try clear A12; try clear A13; try clear A14; try clear A15; try clear A29; try clear A34; try clear A135
    (try simp only [List.append_eq, List.cons_append, List.nil_append])
    have H := HC155.out
    clear HC155
    by_cases c156 : t376 = true
    ·subst c156
     rw [if_pos rfl] at H
     obtain ⟨ji157, hji157⟩ : ∃ j_ : Int, (wrap64 (t350 - 1)) = j_ := ⟨_, rfl⟩
     replace H : (if 0 ≤ (ji157) then (if (ji157) ≤ t350 then (if t350 ≤ (t371.size : Int) then (laws_FnFoldsStack.j7 kj141 l1 ((t371.extract ((ji157) : Int).toNat (t350 : Int).toNat).toList != t375.toList)) else (none)) else (none)) else (none)) = some true := by first | (rw [hji157] at H; exact H) | (simp only [hji157] at H ⊢; exact H)
     have hji157w : (IntKind.i64.wrap (t350 - 1)) = ji157 := (i64_w _).trans hji157
     by_cases c158 : 0 ≤ (ji157)
     ·rw [if_pos c158] at H
      have c158b0 := eq_true c158
      have c158b1 : decide (0 ≤ (ji157)) = true := decide_eq_true c158
      clear c158
      by_cases c159 : (ji157) ≤ t350
      ·rw [if_pos c159] at H
       have c159b0 := eq_true c159
       have c159b1 : decide ((ji157) ≤ t350) = true := decide_eq_true c159
       clear c159
       by_cases c160 : t350 ≤ (t371.size : Int)
       ·rw [if_pos c160] at H
        have c160b0 := eq_true c160
        have c160b1 : decide (t350 ≤ (t371.size : Int)) = true := decide_eq_true c160
        clear c160
        have H' := Aside0.mk H
        clear H
        go_wp2
        repeat (go_quiet (fail); try go_wp2)
        go_meet
        case rel => exact ⟨_, (((t371.extract ((ji157) : Int).toNat (t350 : Int).toNat).toList != t375.toList)), (by first | rfl | (simp; done) | (simp only [← hji157] <;> (first | rfl | simp)) | (simp [*]; done)), H', ⟨by first | omega | exact Nat.le_refl _⟩, ⟨by repeat (first | (with_reducible first | exact HB.out | apply below_alloc | apply pw_below_drewN | apply below_drew1) | exact HB.out)⟩⟩
       ·rw [if_neg c160] at H
        exact absurd H (by simp)
      ·rw [if_neg c159] at H
       exact absurd H (by simp)
     ·rw [if_neg c158] at H
      exact absurd H (by simp)
    ·replace c156 := Bool.eq_false_iff.mpr c156
     subst c156
     rw [if_neg (show ¬ (false = true) by decide)] at H
     have H' := Aside0.mk H
     clear H
     go_wp2
     repeat (go_quiet (fail); try go_wp2)
     go_meet
     case rel => exact ⟨_, (false), (by first | rfl | (simp; done) | (simp [*]; done)), H', ⟨by first | omega | exact Nat.le_refl _⟩, ⟨by repeat (first | (with_reducible first | exact HB.out | apply below_alloc | apply pw_below_drewN | apply below_drew1) | exact HB.out)⟩⟩
   case rest =>
    clear HC155
    try clear p1; try clear q1; try clear hx1; try clear p2; try clear p3; try clear q3; try clear hx3; try clear p6; try clear c10; try clear c11; try clear c12; try clear p12; try clear q12; try clear hx12; try clear c13; try clear p13; try clear q13; try clear hx13; try clear c14; try clear c15; try clear c16; try clear c26; try clear c26b0; try clear c26b1; try clear c26b2; try clear c27; try clear c27b0; try clear c27b1; try clear c28; try clear c28b0; try clear c28b1; try clear c28b2; try clear c30; try clear c31; try clear c31b0; try clear c31b1; try clear c31b2; try clear c35; try clear c36; try clear c36b0; try clear c36b1; try clear c36b2; try clear p38; try clear q38; try clear hx38; try clear c41; try clear c41b0; try clear c41b1; try clear c42; try clear c42b0; try clear c42b1; try clear c42b2; try clear c47; try clear c47b0; try clear c47b1; try clear c48; try clear c48b0; try clear c48b1; try clear c48b2; try clear c53; try clear c53b0; try clear c53b1; try clear c53b2; try clear c58; try clear c59; try clear c60; try clear p64; try clear c73; try clear c96; try clear c98; try clear c99; try clear c99b0; try clear c101; try clear c101b0; try clear c101b1; try clear c102; try clear c102b0; try clear c102b1; try clear c108; try clear c110; try clear c110b0; try clear c111; try clear c111b0; try clear c112; try clear c112b0; try clear c113; try clear c113b0; try clear c114; try clear c114b0; try clear c116; try clear c116b0; try clear c117; try clear c117b0; try clear c118; try clear c118b0; try clear c118b1; try clear c120; try clear c120b0; try clear c121; try clear c121b0; try clear c121b1; try clear c122; try clear c122b0; try clear c123; try clear c123b0; try clear p124; try clear q124; try clear hx124; try clear c125; try clear c125b0; try clear c125b1; try clear c126; try clear c126b0; try clear c127; try clear c127b0; try clear p128; try clear q128; try clear hx128; try clear c130; try clear c130b0; try clear c131; try clear c131b0; try clear p132; try clear q132; try clear hx132; try clear c133; try clear c133b0; try clear c133b1; try clear c134; try clear c134b0; try clear c136; try clear c138; try clear c138b0; try clear c138b1; try clear c139; try clear c139b0; try clear c139b1; try clear c140; try clear c140b0; try clear c140b1; try clear c143; try clear c145; try clear c145b0; try clear c146; try clear c146b0; try clear c147; try clear c147b0; try clear c147b1; try clear c149; try clear c149b0; try clear c150; try clear c150b0; try clear c154; try clear c156; try clear c158; try clear c158b0; try clear c158b1; try clear c159; try clear c159b0; try clear c159b1; try clear c160; try clear c160b0; try clear c160b1; try clear hx381_0; try clear hx382_0; try clear hx385_0; try clear hx386_0; try clear p1; try clear p12; try clear p124; try clear p128; try clear p13; try clear p132; try clear p2; try clear p3; try clear p38; try clear p381; try clear p382; try clear p385; try clear p386; try clear p6; try clear p64; try clear q1; try clear q12; try clear q124; try clear q128; try clear q13; try clear q132; try clear q3; try clear q38; try clear q381; try clear q382; try clear q385; try clear q386
    obtain ⟨kq, x350_154, rfl, HA, HJ154, HB⟩ := hcut
    rename_i K1 a1 K0 a0
    exact nx A1 c1 l1 w HR1 HC1 kq x350_154 wc HA HB _ _ _ _ _ _ _ _ _ _ _ _ _ _ _ _ _ _ _ _ _ _ _ _ _ _ _ _ _ _ _ _ _ _ _ _ _ _ _ _ _ _ _ _ _ _ _ _ _ _ _ _ _ _ _ _ _ _ _ _ _ _ _ _ _ _ _ _ _ _ _ _ _ _ _ _ _ _ _ _ _ _ _ _ _ _ _ _ _ _ _ _ _ _ _ _ _ _ _ _ _ _ _ _ _ _ _ _ _ _ _ _ _ _ _ _ _ _ _ _ _ _ _ _ _ _ _ _ _ _ _ _ _ _ _ _ _ _ _ _ _ _ _ _ _ _ _ _ _ _ _ _ _ _ _ _ _ _ _ _ _ _ _ _ _ _ _ _ _ _ _ _ _ _ _ _ _ _ _ _ _ _ _ _ _ _ _ _ _ _ _ _ _ _ _ _ _ _ _ _ _ _ _ _ _ _ _ _ _ _ _ _ _ _ _ _ _ _ _ _ _ _ _ _ _ _ _ _ _ _ _ _ _ _ _ _ _ _ _ _ _ _ _ _ _ _ _ _ _ _ _ _ _ _ _ _ _ _ _ _ _ _ _ _ _ _ _ _ _ _ _ _ _ _ _ _ _ _ _ _ _ _ _ _ _ _ _ _ _ _ _ _ _ _ _ _ _ _ _ _ _ _ _ _ _ _ _ _ _ _ _ _ _ _ _ _ _ _ _ _ _ _ _ _ _ _ _ _ _ _ _ _ _ _ _ _ _ _ _ _ _ _ _ _ _ _ _ _ _ _ _ _ _ _ _ _ _ _ _ _ _ _ _ _ _ _ _ _ _ _ _ _ _ _ _ _ _ _ _ _ _ _ _ _ _ _ _ _ _ _ _ _ _ _ _ _ _ _ _ _ _ _ _ _ _ _ _ _ _ _ _ _ _ _ _ _ _ _ _ _ _ _ _ _ _ _ _ _ _ _ _ _ _ _ _ _ _ _ _ _ _ _ _ _ _ _ _ _ _ _ _ _ _ _ _ _ _ _ _ _ _ _ _ _ _ _ _ _ _ _ _ _ _ _ _ _ _ _ _ _ _ _ _ _ _ _ _ _ _ _ _ _ _ _ _ _ _ _ _ _ _ _ _ _ _ _ _ _ _ _ _ _ _ _ _ _ _ _ _ _ _ _ _ _ _ _ _ _ _ _ _ _ _ _ _ _ _ _ _ _ _ _ _ _ _ _ _ _ _ _ _ _ _ _ _ _ _ _ _ _ _ _ _ _ _ _ _ _ _ _ _ _ _ _ _ _ _ _ _ _ _ _ _ _ _ _ _ _ _ _ _ _ _ _ _ _ _ _ _ _ _ _ _ _ _ _ _ _ _ _ _ _ _ _ _ _ _ _ _ _ _ _ _ _ _ _ _ _ _ _ _ _ _ _ _ _ _ _ _ _ _ _ _ _ _ _ _ _ _ _ _ _ _ _ _ _ _ _ _ K1 a1 K0 a0

end Go.Proofs.Ytjkfgeigicljpaa.PFnFoldsStack
