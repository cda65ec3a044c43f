-- WRITTEN BY A PROGRAM OF THIS SESSION (xprint), out of the translation: not trusted: it is checked as any text
import Derived.Test.YtjkfgeigicljpaaPFnFoldsStackx8
namespace Go.Proofs.Ytjkfgeigicljpaa.PFnFoldsStack
open Go.RowKit Go.Proofs.YtjkfgeigicljpaaW.PrintWords Go.Proofs.YtjkfgeigicljpaaW.PrintLast Go.Proofs.YtjkfgeigicljpaaW.PrintMore
attribute [local go_sem] max2_int min2_int max_two min_two max_three min_three max_four min_four   -- for this text's walks alone
set_option linter.unusedVariables false
set_option linter.unusedSimpArgs false

set_option maxHeartbeats 40000000 in
set_option maxRecDepth 1000000 in
theorem laws_FnFoldsStack.p14 (nx : laws_FnFoldsStack.P15) : laws_FnFoldsStack.P14 := by
 unfold laws_FnFoldsStack.P14
 intro A1 c1 l1 w HR1 HC1 t350 t351 t352 t355 t363 t371 t375 t376 v365 v357 kq wc HA HO_11 HO_15 HB _ _ _ _ _ _ _ _ _ _ _ _ _ _ _ _ _ _ _ _ _ _ _ _ _ _ _ _ _ _ _ _ _ _ _ _ _ _ _ _ _ _ _ _ _ _ _ _ _ _ _ _ _ _ _ _ _ _ _ _ _ _ _ _ _ _ _ _ _ _ _ _ _ _ _ _ _ _ _ _ _ _ _ _ _ _ _ _ _ _ _ _ _ _ _ _ _ _ _ _ _ _ _ _ _ _ _ _ _ _ _ _ _ _ _ _ _ _ _ _ _ _ _ _ _ _ _ _ _ _ _ _ _ _ _ _ _ _ _ _ _ _ _ _ _ _ _ _ _ _ _ _ _ _ _ _ _ _ _ _ _ _ _ _ _ _ _ _ _ _ _ _ _ _ _ _ _ _ _ _ _ _ _ _ _ _ _ _ _ _ _ _ _ _ _ _ _ _ _ _ _ _ _ _ _ _ _ _ _ _ _ _ _ _ _ _ _ _ _ _ _ _ _ _ _ _ _ _ _ _ _ _ _ _ _ _ _ _ _ _ _ _ _ _ _ _ _ _ _ _ _ _ _ _ _ _ _ _ _ _ _ _ _ _ _ _ _ _ _ _ _ _ _ _ _ _ _ _ _ _ _ _ _ _ _ _ _ _ _ _ _ _ _ _ _ _ _ _ _ _ _ _ _ _ _ _ _ _ _ _ _ _ _ _ _ _ _ _ _ _ _ _ _ _ _ _ _ _ _ _ _ _ _ _ _ _ _ _ _ _ _ _ _ _ _ _ _ _ _ _ _ _ _ _ _ _ _ _ _ _ _ _ _ _ _ _ _ _ _ _ _ _ _ _ _ _ _ _ _ _ _ _ _ _ _ _ _ _ _ _ _ _ _ _ _ _ _ _ _ _ _ _ _ _ _ _ _ _ _ _ _ _ _ _ _ _ _ _ _ _ _ _ _ _ _ _ _ _ _ _ _ _ _ _ _ _ _ _ _ _ _ _ _ _ _ _ _ _ _ _ _ _ _ _ _ _ _ _ _ _ _ _ _ _ _ _ _ _ _ _ _ _ _ _ _ _ _ _ _ _ _ _ _ _ _ _ _ _ _ _ _ _ _ _ _ _ _ _ _ _ _ _ _ _ _ _ _ _ _ _ _ _ _ _ _ _ _ _ _ _ _ _ _ _ _ _ _ _ _ _ _ _ _ _ _ _ _ _ _ _ _ _ _ _ _ _ _ _ _ _ _ _ _ _ _ _ _ _ _ _ _ _ _ _ _ _ _ _ _ _ _ _ _ _ _ _ _ _ _ _ _ _ _ _ _ _ _ _ _ _ _ _ _ _ _ _ _ _ _ _ _ _ _ _ _ _ _ _ _ _ _ _ _ _ _ _ _ _ _ _ _ _ _ _ _ _ _ _ _ _ _ _ _ _ _ _ _ _ _ _ _ _ _ _ _ _ _ _ _ _ _ _ Q' K1 a1
 conv at a1 => intro a w; lhs; arg 2; whnf
 try dsimp only
 cases kq with
 | zero => exact absurd HA.out (by simp [laws_FnFoldsStack.j5])
 | succ kj96 =>
  have H := HA.out
  clear HA
  simp only [laws_FnFoldsStack.j5] at H
  have HC142 := Aside0.mk H
  clear H
  go_upto_region 39 with (fail)
  repeat (go_quiet (fail); go_upto_region 39 with (fail))
  go_cut [340] from 242 to 340 (fun v340 wc => ∃ (kq : Nat) (x340_141 : Bool), v340 = .bool x340_141 ∧ Aside0 (laws_FnFoldsStack.j6 kq l1 t350 t371 t375 t376 x340_141 = some true) ∧ Aside0 (kq ≤ kj96) ∧ Aside0 (Below w.heap.size w wc))
  case first =>
   try clear A3; try clear A5; try clear A6; try clear A7; try clear A8; try clear A9; try clear A10; try clear A11; try clear A12; try clear A13; try clear A14; try clear A15; try clear A29; try clear A34; try clear A135
   (try simp only [List.append_eq, List.cons_append, List.nil_append])
   have H := HC142.out
   clear HC142
   by_cases c143 : t352 = true
   ·subst c143
    rw [if_pos rfl] at H
    obtain ⟨ji144, hji144⟩ : ∃ j_ : Int, (wrap64 (t351 - 1)) = j_ := ⟨_, rfl⟩
    replace H : (if 0 ≤ (ji144) then (if (ji144) < (t355.length : Int) then (if (rd t355 (ji144)) = t350 then (if 0 ≤ (wrap64 (t350 - 1)) then (if (wrap64 (t350 - 1)) < (t363.length : Int) then (laws_FnFoldsStack.j6 kj96 l1 t350 t371 t375 t376 ((rd t363 (wrap64 (t350 - 1))) != t351)) else (none)) else (none)) else (laws_FnFoldsStack.j6 kj96 l1 t350 t371 t375 t376 true)) else (none)) else (none)) = some true := by first | (rw [hji144] at H; exact H) | (simp only [hji144] at H ⊢; exact H)
    have hji144w : (IntKind.i64.wrap (t351 - 1)) = ji144 := (i64_w _).trans hji144
    by_cases c145 : 0 ≤ (ji144)
    ·rw [if_pos c145] at H
     have c145b0 : decide (0 ≤ (ji144)) = true := decide_eq_true c145
     clear c145
     (first | rw [c145b0] | (simp only [i64_w, i32_w]; rw [c145b0]) | skip)
     by_cases c146 : (ji144) < (t355.length : Int)
     ·rw [if_pos c146] at H
      have c146b0 : decide ((ji144) < (t355.length : Int)) = true := decide_eq_true c146
      clear c146
      by_cases c147 : (rd t355 (ji144)) = t350
      ·rw [if_pos c147] at H
       have c147b0 : ((rd t355 (ji144)) == t350) = true := beq_iff_eq.mpr c147
       have c147b1 : ((rd t355 (ji144)) != t350) = false := bne_eq_false_iff_eq.mpr c147
       clear c147
       obtain ⟨ji148, hji148⟩ : ∃ j_ : Int, (wrap64 (t350 - 1)) = j_ := ⟨_, rfl⟩
       replace H : (if 0 ≤ (ji148) then (if (ji148) < (t363.length : Int) then (laws_FnFoldsStack.j6 kj96 l1 t350 t371 t375 t376 ((rd t363 (ji148)) != t351)) else (none)) else (none)) = some true := by first | (rw [hji148] at H; exact H) | (simp only [hji148] at H ⊢; exact H)
       have hji148w : (IntKind.i64.wrap (t350 - 1)) = ji148 := (i64_w _).trans hji148
       by_cases c149 : 0 ≤ (ji148)
       ·rw [if_pos c149] at H
        have c149b0 : decide (0 ≤ (ji148)) = true := decide_eq_true c149
        clear c149
        by_cases c150 : (ji148) < (t363.length : Int)
        ·rw [if_pos c150] at H
         have c150b0 : decide ((ji148) < (t363.length : Int)) = true := decide_eq_true c150
         clear c150
         have H' := Aside0.mk H
         clear H
         obtain ⟨Ao151, co151, eo151⟩ := Kd.R_slice HO_11.out
         subst eo151
         have p385 : 0 ≤ ((ji144) : Int) := of_decide_eq_true (by first | (with_reducible assumption) | assumption)
         have q385 : (ji144) < (t355.length : Int) := of_decide_eq_true (by first | (with_reducible assumption) | assumption)
         obtain ⟨ad385, e385, hx385_0⟩ := Kd.at_int (Kd.R_reads' HO_11.out).2.2 (ji144) p385 q385
         cases e385
         replace p385 := eq_true p385
         replace q385 := eq_true q385
         obtain ⟨Ao152, co152, eo152⟩ := Kd.R_slice HO_15.out
         subst eo152
         have p386 : 0 ≤ ((ji148) : Int) := of_decide_eq_true (by first | (with_reducible assumption) | assumption)
         have q386 : (ji148) < (t363.length : Int) := of_decide_eq_true (by first | (with_reducible assumption) | assumption)
         obtain ⟨ad386, e386, hx386_0⟩ := Kd.at_int (Kd.R_reads' HO_15.out).2.2 (ji148) p386 q386
         cases e386
         replace p386 := eq_true p386
         replace q386 := eq_true q386
         go_wp2
         repeat (go_quiet (fail); try go_wp2)
         go_meet
         case rel => exact ⟨_, (((rd t363 (ji148)) != t351)), (by first | rfl | (simp; done) | (simp only [← hji148] <;> (first | rfl | simp)) | (simp [*]; done)), H', ⟨by first | omega | exact Nat.le_refl _⟩, ⟨by repeat (first | (with_reducible first | exact HB.out | apply below_alloc | apply pw_below_drewN | apply below_drew1) | exact HB.out)⟩⟩
        ·rw [if_neg c150] at H
         exact absurd H (by simp)
       ·rw [if_neg c149] at H
        exact absurd H (by simp)
      ·rw [if_neg c147] at H
       have c147b0 : ((rd t355 (ji144)) == t350) = false := beq_eq_false_iff_ne.mpr c147
       have c147b1 : ((rd t355 (ji144)) != t350) = true := bne_iff_ne.mpr c147
       exact absurd H laws_FnFoldsStack.j6_dead
     ·rw [if_neg c146] at H
      exact absurd H (by simp)
    ·rw [if_neg c145] at H
     exact absurd H (by simp)
   ·replace c143 := Bool.eq_false_iff.mpr c143
    subst c143
    rw [if_neg (show ¬ (false = true) by decide)] at H
    have H' := Aside0.mk H
    clear H
    go_wp2
    repeat (go_quiet (fail); try go_wp2)
    go_meet
    case rel => exact ⟨_, (false), (by first | rfl | (simp; done) | (simp [*]; done)), H', ⟨by first | omega | exact Nat.le_refl _⟩, ⟨by repeat (first | (with_reducible first | exact HB.out | apply below_alloc | apply pw_below_drewN | apply below_drew1) | exact HB.out)⟩⟩
  case rest =>
   clear HC142
   try clear p1; try clear q1; try clear hx1; try clear p2; try clear p3; try clear q3; try clear hx3; try clear p6; try clear c10; try clear c11; try clear c12; try clear p12; try clear q12; try clear hx12; try clear c13; try clear p13; try clear q13; try clear hx13; try clear c14; try clear c15; try clear c26; try clear c26b0; try clear c26b1; try clear c26b2; try clear c27; try clear c27b0; try clear c27b1; try clear c28; try clear c28b0; try clear c28b1; try clear c28b2; try clear c30; try clear c31; try clear c31b0; try clear c31b1; try clear c31b2; try clear c35; try clear c36; try clear c36b0; try clear c36b1; try clear c36b2; try clear p38; try clear q38; try clear hx38; try clear c41; try clear c41b0; try clear c41b1; try clear c42; try clear c42b0; try clear c42b1; try clear c42b2; try clear c47; try clear c47b0; try clear c47b1; try clear c48; try clear c48b0; try clear c48b1; try clear c48b2; try clear c53; try clear c53b0; try clear c53b1; try clear c53b2; try clear c58; try clear c59; try clear c60; try clear p64; try clear c73; try clear c96; try clear c98; try clear c99; try clear c99b0; try clear c101; try clear c101b0; try clear c101b1; try clear c102; try clear c102b0; try clear c102b1; try clear c108; try clear c110; try clear c110b0; try clear c111; try clear c111b0; try clear c112; try clear c112b0; try clear c113; try clear c113b0; try clear c114; try clear c114b0; try clear c116; try clear c116b0; try clear c117; try clear c117b0; try clear c118; try clear c118b0; try clear c118b1; try clear c120; try clear c120b0; try clear c121; try clear c121b0; try clear c121b1; try clear c122; try clear c122b0; try clear c123; try clear c123b0; try clear p124; try clear q124; try clear hx124; try clear c125; try clear c125b0; try clear c125b1; try clear c126; try clear c126b0; try clear c127; try clear c127b0; try clear p128; try clear q128; try clear hx128; try clear c130; try clear c130b0; try clear c131; try clear c131b0; try clear p132; try clear q132; try clear hx132; try clear c133; try clear c133b0; try clear c133b1; try clear c134; try clear c134b0; try clear c136; try clear c138; try clear c138b0; try clear c138b1; try clear c139; try clear c139b0; try clear c139b1; try clear c140; try clear c140b0; try clear c140b1; try clear c143; try clear c145; try clear c145b0; try clear c146; try clear c146b0; try clear c147; try clear c147b0; try clear c147b1; try clear c149; try clear c149b0; try clear c150; try clear c150b0; try clear hx381_0; try clear hx382_0; try clear hx385_0; try clear hx386_0; try clear p1; try clear p12; try clear p124; try clear p128; try clear p13; try clear p132; try clear p2; try clear p3; try clear p38; try clear p381; try clear p382; try clear p385; try clear p386; try clear p6; try clear p64; try clear q1; try clear q12; try clear q124; try clear q128; try clear q13; try clear q132; try clear q3; try clear q38; try clear q381; try clear q382; try clear q385; try clear q386
   obtain ⟨kq, x340_141, rfl, HA, HJ141, HB⟩ := hcut
   rename_i K1 a1 K0 a0
   exact nx A1 c1 l1 w HR1 HC1 t350 t371 t375 t376 kq x340_141 wc HA HB _ _ _ _ _ _ _ _ _ _ _ _ _ _ _ _ _ _ _ _ _ _ _ _ _ _ _ _ _ _ _ _ _ _ _ _ _ _ _ _ _ _ _ _ _ _ _ _ _ _ _ _ _ _ _ _ _ _ _ _ _ _ _ _ _ _ _ _ _ _ _ _ _ _ _ _ _ _ _ _ _ _ _ _ _ _ _ _ _ _ _ _ _ _ _ _ _ _ _ _ _ _ _ _ _ _ _ _ _ _ _ _ _ _ _ _ _ _ _ _ _ _ _ _ _ _ _ _ _ _ _ _ _ _ _ _ _ _ _ _ _ _ _ _ _ _ _ _ _ _ _ _ _ _ _ _ _ _ _ _ _ _ _ _ _ _ _ _ _ _ _ _ _ _ _ _ _ _ _ _ _ _ _ _ _ _ _ _ _ _ _ _ _ _ _ _ _ _ _ _ _ _ _ _ _ _ _ _ _ _ _ _ _ _ _ _ _ _ _ _ _ _ _ _ _ _ _ _ _ _ _ _ _ _ _ _ _ _ _ _ _ _ _ _ _ _ _ _ _ _ _ _ _ _ _ _ _ _ _ _ _ _ _ _ _ _ _ _ _ _ _ _ _ _ _ _ _ _ _ _ _ _ _ _ _ _ _ _ _ _ _ _ _ _ _ _ _ _ _ _ _ _ _ _ _ _ _ _ _ _ _ _ _ _ _ _ _ _ _ _ _ _ _ _ _ _ _ _ _ _ _ _ _ _ _ _ _ _ _ _ _ _ _ _ _ _ _ _ _ _ _ _ _ _ _ _ _ _ _ _ _ _ _ _ _ _ _ _ _ _ _ _ _ _ _ _ _ _ _ _ _ _ _ _ _ _ _ _ _ _ _ _ _ _ _ _ _ _ _ _ _ _ _ _ _ _ _ _ _ _ _ _ _ _ _ _ _ _ _ _ _ _ _ _ _ _ _ _ _ _ _ _ _ _ _ _ _ _ _ _ _ _ _ _ _ _ _ _ _ _ _ _ _ _ _ _ _ _ _ _ _ _ _ _ _ _ _ _ _ _ _ _ _ _ _ _ _ _ _ _ _ _ _ _ _ _ _ _ _ _ _ _ _ _ _ _ _ _ _ _ _ _ _ _ _ _ _ _ _ _ _ _ _ _ _ _ _ _ _ _ _ _ _ _ _ _ _ _ _ _ _ _ _ _ _ _ _ _ _ _ _ _ _ _ _ _ _ _ _ _ _ _ _ _ _ _ _ _ _ _ _ _ _ _ _ _ _ _ _ _ _ _ _ _ _ _ _ _ _ _ _ _ _ _ _ _ _ _ _ _ _ _ _ _ _ _ _ _ _ _ _ _ _ _ _ _ _ _ _ _ _ _ _ _ _ _ _ _ _ _ _ _ _ _ _ _ _ _ _ _ _ _ _ _ _ _ _ _ _ _ _ _ _ _ _ _ _ _ _ _ _ _ _ _ _ K1 a1 K0 a0

end Go.Proofs.Ytjkfgeigicljpaa.PFnFoldsStack
