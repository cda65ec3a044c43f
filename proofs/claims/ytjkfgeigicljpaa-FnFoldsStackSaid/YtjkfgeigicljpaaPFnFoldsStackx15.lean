-- WRITTEN BY A PROGRAM OF THIS SESSION (xprint), out of the translation: not trusted: it is checked as any text
import Derived.Test.YtjkfgeigicljpaaPFnFoldsStackx8
namespace Go.Proofs.Ytjkfgeigicljpaa.PFnFoldsStack
open Go.RowKit Go.Proofs.YtjkfgeigicljpaaW.PrintWords Go.Proofs.YtjkfgeigicljpaaW.PrintLast Go.Proofs.YtjkfgeigicljpaaW.PrintMore
attribute [local go_sem] max2_int min2_int max_two min_two max_three min_three max_four min_four   -- for this text's walks alone
set_option linter.unusedVariables false
set_option linter.unusedSimpArgs false

set_option maxHeartbeats 40000000 in
set_option maxRecDepth 1000000 in
theorem laws_FnFoldsStack.p13 (nx : laws_FnFoldsStack.P14) : laws_FnFoldsStack.P13 := by
 unfold laws_FnFoldsStack.P13
 intro k l0 A1 c1 l1 w HR1 HC1 t349 t350 t351 t352 t355 t356 t363 t371 t375 t376 v365 v357 kq x216_15 wc HA HO_11 HO_15 HB _ _ _ _ _ _ _ _ _ _ _ _ _ _ _ _ _ _ _ _ _ _ _ _ _ _ _ _ _ _ _ _ _ _ _ _ _ _ _ _ _ _ _ _ _ _ _ _ _ _ _ _ _ _ _ _ _ _ _ _ _ _ _ _ _ _ _ _ _ _ _ _ _ _ _ _ _ _ _ _ _ _ _ _ _ _ _ _ _ _ _ _ _ _ _ _ _ _ _ _ _ _ _ _ _ _ _ _ _ _ _ _ _ _ _ _ _ _ _ _ _ _ _ _ _ _ _ _ _ _ _ _ _ _ _ _ _ _ _ _ _ _ _ _ _ _ _ _ _ _ _ _ _ _ _ _ _ _ _ _ _ _ _ _ _ _ _ _ _ _ _ _ _ _ _ _ _ _ _ _ _ _ _ _ _ _ _ _ _ _ _ _ _ _ _ _ _ _ _ _ _ _ _ _ _ _ _ _ _ _ _ _ _ _ _ _ _ _ _ _ _ _ _ _ _ _ _ _ _ _ _ _ _ _ _ _ _ _ _ _ _ _ _ _ _ _ _ _ _ _ _ _ _ _ _ _ _ _ _ _ _ _ _ _ _ _ _ _ _ _ _ _ _ _ _ _ _ _ _ _ _ _ _ _ _ _ _ _ _ _ _ _ _ _ _ _ _ _ _ _ _ _ _ _ _ _ _ _ _ _ _ _ _ _ _ _ _ _ _ _ _ _ _ _ _ _ _ _ _ _ _ _ _ _ _ _ _ _ _ _ _ _ _ _ _ _ _ _ _ _ _ _ _ _ _ _ _ _ _ _ _ _ _ _ _ _ _ _ _ _ _ _ _ _ _ _ _ _ _ _ _ _ _ _ _ _ _ _ _ _ _ _ _ _ _ _ _ _ _ _ _ _ _ _ _ _ _ _ _ _ _ _ _ _ _ _ _ _ _ _ _ _ _ _ _ _ _ _ _ _ _ _ _ _ _ _ _ _ _ _ _ _ _ _ _ _ _ _ _ _ _ _ _ _ _ _ _ _ _ _ _ _ _ _ _ _ _ _ _ _ _ _ _ _ _ _ _ _ _ _ _ _ _ _ _ _ _ _ _ _ _ _ _ _ _ _ _ _ _ _ _ _ _ _ _ _ _ _ _ _ _ _ _ _ _ _ _ _ _ _ _ _ _ _ _ _ _ _ _ _ _ _ _ _ _ _ _ _ _ _ _ _ _ _ _ _ _ _ _ _ _ _ _ _ _ _ _ _ _ _ _ _ _ _ _ _ _ _ _ _ _ _ _ _ _ _ _ _ _ _ _ _ _ _ _ _ _ _ _ _ _ _ _ _ _ _ _ _ _ _ _ _ _ _ _ _ _ _ _ _ _ _ _ _ _ _ _ _ _ _ _ _ _ _ _ _ _ _ _ _ _ _ _ _ _ _ _ _ _ _ _ _ _ _ _ _ _ _ _ Q' K1 a1 K0 a0
 conv at a1 => intro a w; lhs; arg 2; whnf
 conv at a0 => intro a w; lhs; arg 2; whnf
 try dsimp only
 cases kq with
 | zero => exact absurd HA.out (by simp [laws_FnFoldsStack.j0])
 | succ kj15 =>
  have H := HA.out
  clear HA
  simp only [laws_FnFoldsStack.j0] at H
  by_cases c96 : x216_15 = true
  ·subst c96
   rw [if_pos rfl] at H
   exact absurd H (by simp)
  ·replace c96 := Bool.eq_false_iff.mpr c96
   subst c96
   rw [if_neg (show ¬ (false = true) by decide)] at H
   have HC97 := Aside0.mk H
   clear H
   go_upto_if 217 with (fail)
   repeat (go_quiet (fail); go_upto_if 217 with (fail))
   go_cut [] from 217 to 217 (fun wc => ∃ (kq : Nat), Aside0 (laws_FnFoldsStack.j5 kq l1 t350 t351 t352 t355 t363 t371 t375 t376 = some true) ∧ Aside0 (kq ≤ kj15) ∧ Aside0 (Kd.R (Kd.int .i64) 3 wc w.heap.size (fun k_ => some k_ ≠ (v365 : Value).ownBlock) v357 t355) ∧ Aside0 (Kd.R (Kd.int .i64) 3 wc w.heap.size (fun k_ => some k_ ≠ (v357 : Value).ownBlock) v365 t363) ∧ Aside0 (Below w.heap.size w wc))
   case first =>
    try clear A3; try clear A5; try clear A6; try clear A7; try clear A8; try clear A9; try clear A10; try clear A11; try clear A12; try clear A13; try clear A14; try clear A15; try clear A29; try clear A34
    (try simp only [List.append_eq, List.cons_append, List.nil_append])
    have H := HC97.out
    clear HC97
    by_cases c98 : t356 = true
    ·subst c98
     rw [if_pos rfl] at H
     have H' := Aside0.mk H
     clear H
     go_wp2
     repeat (go_quiet (fail); try go_wp2)
     go_loopg [27, 28] kj15 (fun kq v27 v28 w' => ∃ (x27_2 : Int) (x28_2 : Int), v27 = .int .i64 x27_2 ∧ v28 = .int .i64 x28_2 ∧ Aside0 (laws_FnFoldsStack.l0 kq l1 t349 t350 t351 t352 t355 t363 t371 t375 t376 x27_2 x28_2 = some true) ∧ Aside0 (kq ≤ kj15) ∧ Aside0 (Kd.R (Kd.int .i64) 3 w' w.heap.size (fun k_ => some k_ ≠ (v365 : Value).ownBlock) v357 t355) ∧ Aside0 (Kd.R (Kd.int .i64) 3 w' w.heap.size (fun k_ => some k_ ≠ (v357 : Value).ownBlock) v365 t363) ∧ Aside0 (Below w.heap.size w w'))
     case atStart => exact ⟨(1), (0), (by first | rfl | (simp; done) | (simp [*]; done)), (by first | rfl | (simp; done) | (simp [*]; done)), H', ⟨Nat.le_refl _⟩, ⟨by (with_reducible repeat (first | apply Kd.R_alloc | apply Kd.R_drewN | apply Kd.R_drew)); exact HO_11.out⟩, ⟨by (with_reducible repeat (first | apply Kd.R_alloc | apply Kd.R_drewN | apply Kd.R_drew)); exact HO_15.out⟩, ⟨by repeat (first | (with_reducible first | exact HB.out | apply below_alloc | apply pw_below_drewN | apply below_drew1) | exact HB.out)⟩⟩
     case round =>
      clear H'
      try clear p2; try clear c26; try clear c26b0; try clear c26b1; try clear c26b2; try clear c27; try clear c27b0; try clear c27b1; try clear c28; try clear c28b0; try clear c28b1; try clear c28b2; try clear c30; try clear c31; try clear c31b0; try clear c31b1; try clear c31b2; try clear c35; try clear c36; try clear c36b0; try clear c36b1; try clear c36b2; try clear c41; try clear c41b0; try clear c41b1; try clear c42; try clear c42b0; try clear c42b1; try clear c42b2; try clear c47; try clear c47b0; try clear c47b1; try clear c48; try clear c48b0; try clear c48b1; try clear c48b2; try clear c53; try clear c53b0; try clear c53b1; try clear c53b2; try clear c58; try clear c59; try clear c60; try clear c73; try clear c96; try clear c98; try clear p2
      obtain ⟨x27_2, x28_2, rfl, rfl, HA, HK2, HO_11, HO_15, HB⟩ := hrel
      cases gk with
      | zero => exact absurd HA.out (by simp [laws_FnFoldsStack.l0])
      | succ k2 =>
       have H := HA.out
       clear HA
       simp only [laws_FnFoldsStack.l0] at H
       by_cases c99 : x28_2 < t349
       ·rw [if_pos c99] at H
        have c99b0 : decide (x28_2 < t349) = true := decide_eq_true c99
        clear c99
        (first | rw [c99b0] | (simp only [i64_w, i32_w]; rw [c99b0]) | skip)
        have H' := Aside0.mk H
        clear H
        go_wp2
        repeat (go_quiet (fail); try go_wp2)
        go_roundg k2
        case measure => have := HK2.out; omega
        case rel => exact ⟨(wrap64 (x27_2 * 2)), (wrap64 (x28_2 + 1)), (by first | rfl | (simp; done) | (simp [*]; done)), (by first | rfl | (simp; done) | (simp [*]; done)), H', ⟨by have := HK2.out; omega⟩, ⟨by (with_reducible repeat (first | apply Kd.R_alloc | apply Kd.R_drewN | apply Kd.R_drew)); exact HO_11.out⟩, ⟨by (with_reducible repeat (first | apply Kd.R_alloc | apply Kd.R_drewN | apply Kd.R_drew)); exact HO_15.out⟩, ⟨by repeat (first | (with_reducible first | exact HB.out | apply below_alloc | apply pw_below_drewN | apply below_drew1) | exact HB.out)⟩⟩
       ·rw [if_neg c99] at H
        have c99b0 : decide (x28_2 < t349) = false := decide_eq_false c99
        clear c99
        (first | rw [c99b0] | (simp only [i64_w, i32_w]; rw [c99b0]) | skip)
        have HC100 := Aside0.mk H
        clear H
        go_upto_region 22 with (fail)
        repeat (go_quiet (fail); go_upto_region 22 with (fail))
        go_cut [241] from 218 to 241 (fun v241 wc => ∃ (kq : Nat) (x241_99 : Bool), v241 = .bool x241_99 ∧ Aside0 (laws_FnFoldsStack.j2 kq l1 t349 t350 t351 t352 t355 t363 t371 t375 t376 x27_2 x241_99 = some true) ∧ Aside0 (kq ≤ k2) ∧ Aside0 (Kd.R (Kd.int .i64) 3 wc w.heap.size (fun k_ => some k_ ≠ (v365 : Value).ownBlock) v357 t355) ∧ Aside0 (Kd.R (Kd.int .i64) 3 wc w.heap.size (fun k_ => some k_ ≠ (v357 : Value).ownBlock) v365 t363) ∧ Aside0 (Below w.heap.size w wc))
        case first =>
         try clear A3; try clear A5; try clear A6; try clear A7; try clear A8; try clear A9; try clear A10; try clear A11; try clear A12; try clear A13; try clear A14; try clear A15; try clear A29; try clear A34
         (try simp only [List.append_eq, List.cons_append, List.nil_append])
         have H := HC100.out
         clear HC100
         by_cases c101 : (t355.length : Int) = x27_2
         ·rw [if_pos c101] at H
          have c101b0 : ((t355.length : Int) == x27_2) = true := beq_iff_eq.mpr c101
          have c101b1 : ((t355.length : Int) != x27_2) = false := bne_eq_false_iff_eq.mpr c101
          clear c101
          (first | rw [c101b0] | (simp only [i64_w, i32_w]; rw [c101b0]) | skip)
          by_cases c102 : (t363.length : Int) = x27_2
          ·rw [if_pos c102] at H
           have c102b0 : ((t363.length : Int) == x27_2) = true := beq_iff_eq.mpr c102
           have c102b1 : ((t363.length : Int) != x27_2) = false := bne_eq_false_iff_eq.mpr c102
           clear c102
           have H' := Aside0.mk H
           clear H
           obtain ⟨Ao103, co103, eo103⟩ := Kd.R_slice HO_11.out
           subst eo103
           obtain ⟨Ao104, co104, eo104⟩ := Kd.R_slice HO_15.out
           subst eo104
           go_wp2
           repeat (go_quiet (fail); try go_wp2)
           go_meet
           case rel => exact ⟨_, (((t371.size : Int) != (wrap64 (x27_2 - 1)))), (by first | rfl | (simp; done) | (simp [*]; done)), H', ⟨by have := HK2.out; first | omega | exact Nat.le_refl _⟩, ⟨by (with_reducible repeat (first | apply Kd.R_alloc | apply Kd.R_drewN | apply Kd.R_drew)); exact HO_11.out⟩, ⟨by (with_reducible repeat (first | apply Kd.R_alloc | apply Kd.R_drewN | apply Kd.R_drew)); exact HO_15.out⟩, ⟨by repeat (first | (with_reducible first | exact HB.out | apply below_alloc | apply pw_below_drewN | apply below_drew1) | exact HB.out)⟩⟩
          ·rw [if_neg c102] at H
           have c102b0 : ((t363.length : Int) == x27_2) = false := beq_eq_false_iff_ne.mpr c102
           have c102b1 : ((t363.length : Int) != x27_2) = true := bne_iff_ne.mpr c102
           exact absurd H laws_FnFoldsStack.j2_dead
         ·rw [if_neg c101] at H
          have c101b0 : ((t355.length : Int) == x27_2) = false := beq_eq_false_iff_ne.mpr c101
          have c101b1 : ((t355.length : Int) != x27_2) = true := bne_iff_ne.mpr c101
          (first | rw [c101b0] | (simp only [i64_w, i32_w]; rw [c101b0]) | skip)
          exact absurd H laws_FnFoldsStack.j2_dead
        case rest =>
         clear HC100
         try clear p2; try clear p6; try clear c10; try clear c26; try clear c26b0; try clear c26b1; try clear c26b2; try clear c27; try clear c27b0; try clear c27b1; try clear c28; try clear c28b0; try clear c28b1; try clear c28b2; try clear c30; try clear c31; try clear c31b0; try clear c31b1; try clear c31b2; try clear c35; try clear c36; try clear c36b0; try clear c36b1; try clear c36b2; try clear c41; try clear c41b0; try clear c41b1; try clear c42; try clear c42b0; try clear c42b1; try clear c42b2; try clear c47; try clear c47b0; try clear c47b1; try clear c48; try clear c48b0; try clear c48b1; try clear c48b2; try clear c53; try clear c53b0; try clear c53b1; try clear c53b2; try clear c58; try clear c59; try clear c60; try clear p64; try clear c73; try clear c96; try clear c98; try clear c99; try clear c99b0; try clear c101; try clear c101b0; try clear c101b1; try clear c102; try clear c102b0; try clear c102b1; try clear p2
         obtain ⟨kq, x241_99, rfl, HA, HJ99, HO_11, HO_15, HB⟩ := hcut
         cases kq with
         | zero => exact absurd HA.out (by simp [laws_FnFoldsStack.j2])
         | succ kj99 =>
          have H := HA.out
          clear HA
          simp only [laws_FnFoldsStack.j2] at H
          by_cases c108 : x241_99 = true
          ·subst c108
           rw [if_pos rfl] at H
           exact absurd H (by simp)
          ·replace c108 := Bool.eq_false_iff.mpr c108
           subst c108
           rw [if_neg (show ¬ (false = true) by decide)] at H
           have H' := Aside0.mk H
           clear H
           obtain ⟨Ao109, co109, eo109⟩ := Kd.R_slice HO_11.out
           subst eo109
           go_wp2
           repeat (go_quiet (fail); try go_wp2)
           go_loopg [244] kj99 (fun kq v244 w' => ∃ (x244_4 : Int), v244 = .int .i64 x244_4 ∧ Aside0 (laws_FnFoldsStack.l1 kq l1 t349 t350 t351 t352 t355 t363 t371 t375 t376 x27_2 t355 (t355.length : Int) x244_4 = some true) ∧ Aside0 (kq ≤ kj99) ∧ Aside0 (Kd.R (Kd.int .i64) 3 w' w.heap.size (fun k_ => some k_ ≠ (v365 : Value).ownBlock) (.slice Ao109 t355.length co109) t355) ∧ Aside0 (Kd.R (Kd.int .i64) 3 w' w.heap.size (fun k_ => some k_ ≠ ((.slice Ao109 t355.length co109) : Value).ownBlock ∧ some k_ ≠ ((.slice Ao109 t355.length co109) : Value).ownBlock) v365 t363) ∧ Aside0 (Kd.R (Kd.int .i64) 3 w' w.heap.size (fun k_ => some k_ ≠ (v365 : Value).ownBlock) (.slice Ao109 t355.length co109) t355) ∧ Aside0 (Below w.heap.size w w'))
           case atStart => exact ⟨(0), (by first | rfl | (simp; done) | (simp [*]; done)), H', ⟨Nat.le_refl _⟩, ⟨by (with_reducible repeat (first | apply Kd.R_alloc | apply Kd.R_drewN | apply Kd.R_drew)); exact HO_11.out⟩, ⟨by (with_reducible repeat (first | apply Kd.R_alloc | apply Kd.R_drewN | apply Kd.R_drew)); exact Kd.R_mono HO_15.out (fun _ hk => ⟨hk, hk⟩)⟩, ⟨by (with_reducible repeat (first | apply Kd.R_alloc | apply Kd.R_drewN | apply Kd.R_drew)); exact HO_11.out⟩, ⟨by repeat (first | (with_reducible first | exact HB.out | apply below_alloc | apply pw_below_drewN | apply below_drew1) | exact HB.out)⟩⟩
           case round =>
            clear H'
            try clear p2; try clear p6; try clear c10; try clear c26; try clear c26b0; try clear c26b1; try clear c26b2; try clear c27; try clear c27b0; try clear c27b1; try clear c28; try clear c28b0; try clear c28b1; try clear c28b2; try clear c30; try clear c31; try clear c31b0; try clear c31b1; try clear c31b2; try clear c35; try clear c36; try clear c36b0; try clear c36b1; try clear c36b2; try clear c41; try clear c41b0; try clear c41b1; try clear c42; try clear c42b0; try clear c42b1; try clear c42b2; try clear c47; try clear c47b0; try clear c47b1; try clear c48; try clear c48b0; try clear c48b1; try clear c48b2; try clear c53; try clear c53b0; try clear c53b1; try clear c53b2; try clear c58; try clear c59; try clear c60; try clear p64; try clear c73; try clear c96; try clear c98; try clear c99; try clear c99b0; try clear c101; try clear c101b0; try clear c101b1; try clear c102; try clear c102b0; try clear c102b1; try clear c108; try clear p2; try clear p6; try clear p64
            obtain ⟨x244_4, rfl, HA, HK4, HO_11, HO_15, HO_242, HB⟩ := hrel
            cases gk with
            | zero => exact absurd HA.out (by simp [laws_FnFoldsStack.l1])
            | succ k4 =>
             have H := HA.out
             clear HA
             simp only [laws_FnFoldsStack.l1] at H
             by_cases c110 : x244_4 < (t355.length : Int)
             ·rw [if_pos c110] at H
              have c110b0 : decide (x244_4 < (t355.length : Int)) = true := decide_eq_true c110
              clear c110
              by_cases c111 : 0 ≤ x244_4
              ·rw [if_pos c111] at H
               have c111b0 : decide (0 ≤ x244_4) = true := decide_eq_true c111
               clear c111
               by_cases c112 : x244_4 < (t355.length : Int)
               ·rw [if_pos c112] at H
                have c112b0 : decide (x244_4 < (t355.length : Int)) = true := decide_eq_true c112
                clear c112
                by_cases c113 : (rd t355 x244_4) < 1
                ·rw [if_pos c113] at H
                 have c113b0 : decide ((rd t355 x244_4) < 1) = true := decide_eq_true c113
                 clear c113
                 exact absurd H (by simp)
                ·rw [if_neg c113] at H
                 have c113b0 : decide ((rd t355 x244_4) < 1) = false := decide_eq_false c113
                 clear c113
                 by_cases c114 : (rd t355 x244_4) > x27_2
                 ·rw [if_pos c114] at H
                  have c114b0 : decide (x27_2 < (rd t355 x244_4)) = true := decide_eq_true c114
                  clear c114
                  exact absurd H (by simp)
                 ·rw [if_neg c114] at H
                  have c114b0 : decide (x27_2 < (rd t355 x244_4)) = false := decide_eq_false c114
                  clear c114
                  obtain ⟨ji115, hji115⟩ : ∃ j_ : Int, (wrap64 ((rd t355 x244_4) - 1)) = j_ := ⟨_, rfl⟩
                  replace H : (if 0 ≤ (ji115) then (if (ji115) < (t363.length : Int) then (if (rd t363 (ji115)) = (wrap64 (x244_4 + 1)) then (laws_FnFoldsStack.l1 k4 l1 t349 t350 t351 t352 t355 t363 t371 t375 t376 x27_2 t355 (t355.length : Int) (wrap64 (x244_4 + 1))) else (some false)) else (none)) else (none)) = some true := by first | (rw [hji115] at H; exact H) | (simp only [hji115] at H ⊢; exact H)
                  have hji115w : (IntKind.i64.wrap ((rd t355 x244_4) - 1)) = ji115 := (i64_w _).trans hji115
                  by_cases c116 : 0 ≤ (ji115)
                  ·rw [if_pos c116] at H
                   have c116b0 : decide (0 ≤ (ji115)) = true := decide_eq_true c116
                   clear c116
                   by_cases c117 : (ji115) < (t363.length : Int)
                   ·rw [if_pos c117] at H
                    have c117b0 : decide ((ji115) < (t363.length : Int)) = true := decide_eq_true c117
                    clear c117
                    by_cases c118 : (rd t363 (ji115)) = (wrap64 (x244_4 + 1))
                    ·rw [if_pos c118] at H
                     have c118b0 : ((rd t363 (ji115)) == (wrap64 (x244_4 + 1))) = true := beq_iff_eq.mpr c118
                     have c118b1 : ((rd t363 (ji115)) != (wrap64 (x244_4 + 1))) = false := bne_eq_false_iff_eq.mpr c118
                     clear c118
                     have H' := Aside0.mk H
                     clear H
                     have p381 : 0 ≤ (x244_4 : Int) := of_decide_eq_true (by first | (with_reducible assumption) | assumption)
                     have q381 : x244_4 < (t355.length : Int) := of_decide_eq_true (by first | (with_reducible assumption) | assumption)
                     obtain ⟨ad381, e381, hx381_0⟩ := Kd.at_int (Kd.R_reads' HO_242.out).2.2 x244_4 p381 q381
                     cases e381
                     replace p381 := eq_true p381
                     replace q381 := eq_true q381
                     obtain ⟨Ao119, co119, eo119⟩ := Kd.R_slice HO_15.out
                     subst eo119
                     have p382 : 0 ≤ ((ji115) : Int) := of_decide_eq_true (by first | (with_reducible assumption) | assumption)
                     have q382 : (ji115) < (t363.length : Int) := of_decide_eq_true (by first | (with_reducible assumption) | assumption)
                     obtain ⟨ad382, e382, hx382_0⟩ := Kd.at_int (Kd.R_reads' HO_15.out).2.2 (ji115) p382 q382
                     cases e382
                     replace p382 := eq_true p382
                     replace q382 := eq_true q382
                     go_wp2
                     repeat (go_quiet (fail); try go_wp2)
                     go_roundg k4
                     case measure => have := HK2.out; have := HJ99.out; have := HK4.out; omega
                     case rel => exact ⟨(wrap64 (x244_4 + 1)), (by first | rfl | (simp; done) | (simp [*]; done)), H', ⟨by have := HK2.out; have := HJ99.out; have := HK4.out; omega⟩, ⟨by (with_reducible repeat (first | apply Kd.R_alloc | apply Kd.R_drewN | apply Kd.R_drew)); exact HO_11.out⟩, ⟨by (with_reducible repeat (first | apply Kd.R_alloc | apply Kd.R_drewN | apply Kd.R_drew)); exact HO_15.out⟩, ⟨by (with_reducible repeat (first | apply Kd.R_alloc | apply Kd.R_drewN | apply Kd.R_drew)); exact HO_242.out⟩, ⟨by repeat (first | (with_reducible first | exact HB.out | apply below_alloc | apply pw_below_drewN | apply below_drew1) | exact HB.out)⟩⟩
                    ·rw [if_neg c118] at H
                     have c118b0 : ((rd t363 (ji115)) == (wrap64 (x244_4 + 1))) = false := beq_eq_false_iff_ne.mpr c118
                     have c118b1 : ((rd t363 (ji115)) != (wrap64 (x244_4 + 1))) = true := bne_iff_ne.mpr c118
                     exact absurd H (by simp)
                   ·rw [if_neg c117] at H
                    exact absurd H (by simp)
                  ·rw [if_neg c116] at H
                   exact absurd H (by simp)
               ·rw [if_neg c112] at H
                exact absurd H (by simp)
              ·rw [if_neg c111] at H
               exact absurd H (by simp)
             ·rw [if_neg c110] at H
              have c110b0 : decide (x244_4 < (t355.length : Int)) = false := decide_eq_false c110
              clear c110
              have H' := Aside0.mk H
              clear H
              go_wp2
              repeat (go_quiet (fail); try go_wp2)
              obtain ⟨G, hG⟩ : ∃ G : Nat, wr.heap.size = G := ⟨_, rfl⟩
              have HIT := Aside0.mk (show w.heap.size ≤ G ∧ (wr.iter t371 0).heap[G]? = some (.stringIter t371 0) from ⟨by rw [← hG]; exact HB.out.size, by rw [← hG]; exact World.iter_heap wr t371 0⟩)
              rw [hG]
              clear hG
              go_loopg [] k4 (fun kq w' => ∃ (x269_5 : Int) (pos : Nat), Aside0 ((pos : Int) = x269_5) ∧ Aside0 (laws_FnFoldsStack.l2 kq l1 t349 t350 t351 t352 t355 t363 t371 t375 t376 (t371.size : Int) x269_5 = some true) ∧ Aside0 (kq ≤ k4) ∧ Aside0 (Kd.R (Kd.int .i64) 3 w' w.heap.size (fun k_ => some k_ ≠ (v365 : Value).ownBlock) (.slice Ao109 t355.length co109) t355) ∧ Aside0 (Kd.R (Kd.int .i64) 3 w' w.heap.size (fun k_ => some k_ ≠ ((.slice Ao109 t355.length co109) : Value).ownBlock) v365 t363) ∧ Aside0 (Below w.heap.size w w') ∧ Aside0 (w.heap.size ≤ G ∧ w'.heap[G]? = some (.stringIter t371 pos)))
              case atStart => exact ⟨0, 0, ⟨rfl⟩, H', ⟨Nat.le_refl _⟩, ⟨Kd.R_alloc (HO_11.out) _⟩, ⟨Kd.R_alloc (Kd.R_mono HO_15.out (fun _ hk => hk.1)) _⟩, ⟨below_alloc HB.out _⟩, HIT⟩
              case round =>
               clear H'
               try clear p2; try clear p3; try clear q3; try clear hx3; try clear p6; try clear c10; try clear c11; try clear c26; try clear c26b0; try clear c26b1; try clear c26b2; try clear c27; try clear c27b0; try clear c27b1; try clear c28; try clear c28b0; try clear c28b1; try clear c28b2; try clear c30; try clear c31; try clear c31b0; try clear c31b1; try clear c31b2; try clear c35; try clear c36; try clear c36b0; try clear c36b1; try clear c36b2; try clear p38; try clear q38; try clear hx38; try clear c41; try clear c41b0; try clear c41b1; try clear c42; try clear c42b0; try clear c42b1; try clear c42b2; try clear c47; try clear c47b0; try clear c47b1; try clear c48; try clear c48b0; try clear c48b1; try clear c48b2; try clear c53; try clear c53b0; try clear c53b1; try clear c53b2; try clear c58; try clear c59; try clear c60; try clear p64; try clear c73; try clear c96; try clear c98; try clear c99; try clear c99b0; try clear c101; try clear c101b0; try clear c101b1; try clear c102; try clear c102b0; try clear c102b1; try clear c108; try clear c110; try clear c110b0; try clear c111; try clear c111b0; try clear c112; try clear c112b0; try clear c113; try clear c113b0; try clear c114; try clear c114b0; try clear c116; try clear c116b0; try clear c117; try clear c117b0; try clear c118; try clear c118b0; try clear c118b1; try clear hx381_0; try clear hx382_0; try clear p2; try clear p381; try clear p382; try clear p6; try clear p64; try clear q381; try clear q382
               obtain ⟨x269_5, pos, HX, HA, HK5, HO_11, HO_15, HB, HIT⟩ := hrel
               cases gk with
               | zero => exact absurd HA.out (by simp [laws_FnFoldsStack.l2])
               | succ k5 =>
                have H := HA.out
                clear HA
                simp only [laws_FnFoldsStack.l2] at H
                by_cases c120 : x269_5 < (t371.size : Int)
                ·rw [if_pos c120] at H
                 have c120b0 : decide (x269_5 < (t371.size : Int)) = true := decide_eq_true c120
                 have HLT := Aside0.mk c120
                 clear c120
                 by_cases cbig : x269_5 < 1000000
                 ·rw [if_pos cbig] at H
                  have HBIG := Aside0.mk cbig
                  clear cbig
                  by_cases casc : (bt t371 x269_5) < 128
                  ·rw [if_pos casc] at H
                   have hp : pos < t371.size := by have h1 := HX.out; have h2 := HLT.out; omega
                   have hnx : ∀ ty, (Instr.next (.pointer (some ⟨G, 0, none⟩)) true ty).run Try.prog wr = _ := fun ty => Lib.run_next_ascii_at wr G t371 pos ty HIT.out.2 hp (laws_FnFoldsStack.scan_asc HX.out hp casc)
                   rw [HX.out] at hnx
                   clear casc
                   replace HB := Aside0.mk (Lib.below_iterAt HB.out HIT.out.1 t371 (pos + 1))
                   replace HO_11 := Aside0.mk (laws_FnFoldsStack.scan_R HO_11.out HIT.out.2 (pos + 1))
                   replace HO_15 := Aside0.mk (laws_FnFoldsStack.scan_R HO_15.out HIT.out.2 (pos + 1))
                   replace HIT := Aside0.mk (And.intro HIT.out.1 (Lib.iterAt_heap wr G t371 pos (pos + 1) HIT.out.2))
                   by_cases c121 : x269_5 = (wrap64 ((t371.size : Int) / 2))
                   ·rw [if_pos c121] at H
                    have c121b0 : (x269_5 == (wrap64 ((t371.size : Int) / 2))) = true := beq_iff_eq.mpr c121
                    have c121b1 : (x269_5 != (wrap64 ((t371.size : Int) / 2))) = false := bne_eq_false_iff_eq.mpr c121
                    clear c121
                    by_cases c122 : 0 ≤ x269_5
                    ·rw [if_pos c122] at H
                     have c122b0 : decide (0 ≤ x269_5) = true := decide_eq_true c122
                     clear c122
                     by_cases c123 : x269_5 < (t371.size : Int)
                     ·rw [if_pos c123] at H
                      have c123b0 : decide (x269_5 < (t371.size : Int)) = true := decide_eq_true c123
                      clear c123
                      by_cases c125 : (bt t371 x269_5) = 118
                      ·rw [if_pos c125] at H
                       have c125b0 : ((bt t371 x269_5) == 118) = true := beq_iff_eq.mpr c125
                       have c125b1 : ((bt t371 x269_5) != 118) = false := bne_eq_false_iff_eq.mpr c125
                       clear c125
                       have H' := Aside0.mk H
                       clear H
                       have p124 : 0 ≤ (x269_5 : Int) := of_decide_eq_true (by first | (with_reducible assumption) | assumption)
                       have q124 : x269_5 < (t371.size : Int) := of_decide_eq_true (by first | (with_reducible assumption) | assumption)
                       have hx124 := bt_at t371 x269_5
                       replace p124 := eq_true p124
                       replace q124 := eq_true q124
                       go_wp2
                       repeat (go_quiet (fail); try go_wp2)
                       go_roundg k5
                       case measure => have := HK2.out; have := HJ99.out; have := HK4.out; have := HK5.out; omega
                       case rel => exact ⟨(wrap64 (x269_5 + 1)), pos + 1, ⟨by have h1 := HX.out; have h2 := HBIG.out; unfold wrap64; omega⟩, H', ⟨by have := HK2.out; have := HJ99.out; have := HK4.out; have := HK5.out; omega⟩, ⟨by (with_reducible repeat (first | apply Kd.R_alloc | apply Kd.R_drewN | apply Kd.R_drew)); exact HO_11.out⟩, ⟨by (with_reducible repeat (first | apply Kd.R_alloc | apply Kd.R_drewN | apply Kd.R_drew)); exact HO_15.out⟩, ⟨by repeat (first | (with_reducible first | exact HB.out | apply below_alloc | apply pw_below_drewN | apply below_drew1) | exact HB.out)⟩, ⟨HIT.out.1, by first | exact HIT.out.2 | (simp only [World.drewN_heap]; exact HIT.out.2) | (simp; exact HIT.out.2)⟩⟩
                      ·rw [if_neg c125] at H
                       have c125b0 : ((bt t371 x269_5) == 118) = false := beq_eq_false_iff_ne.mpr c125
                       have c125b1 : ((bt t371 x269_5) != 118) = true := bne_iff_ne.mpr c125
                       exact absurd H (by simp)
                     ·rw [if_neg c123] at H
                      exact absurd H (by simp)
                    ·rw [if_neg c122] at H
                     exact absurd H (by simp)
                   ·rw [if_neg c121] at H
                    have c121b0 : (x269_5 == (wrap64 ((t371.size : Int) / 2))) = false := beq_eq_false_iff_ne.mpr c121
                    have c121b1 : (x269_5 != (wrap64 ((t371.size : Int) / 2))) = true := bne_iff_ne.mpr c121
                    by_cases c126 : 0 ≤ x269_5
                    ·rw [if_pos c126] at H
                     have c126b0 : decide (0 ≤ x269_5) = true := decide_eq_true c126
                     clear c126
                     by_cases c127 : x269_5 < (t371.size : Int)
                     ·rw [if_pos c127] at H
                      have c127b0 : decide (x269_5 < (t371.size : Int)) = true := decide_eq_true c127
                      clear c127
                      obtain ⟨ji129, hji129⟩ : ∃ j_ : Int, (wrap64 ((wrap64 ((t371.size : Int) - 1)) - x269_5)) = j_ := ⟨_, rfl⟩
                      replace H : (if 0 ≤ (ji129) then (if (ji129) < (t371.size : Int) then (if (bt t371 x269_5) = (bt t371 (ji129)) then (some false) else (laws_FnFoldsStack.l2 k5 l1 t349 t350 t351 t352 t355 t363 t371 t375 t376 (t371.size : Int) (wrap64 (x269_5 + 1)))) else (none)) else (none)) = some true := by first | (rw [hji129] at H; exact H) | (simp only [hji129] at H ⊢; exact H)
                      have hji129w : (IntKind.i64.wrap ((wrap64 ((t371.size : Int) - 1)) - x269_5)) = ji129 := (i64_w _).trans hji129
                      by_cases c130 : 0 ≤ (ji129)
                      ·rw [if_pos c130] at H
                       have c130b0 : decide (0 ≤ (ji129)) = true := decide_eq_true c130
                       clear c130
                       by_cases c131 : (ji129) < (t371.size : Int)
                       ·rw [if_pos c131] at H
                        have c131b0 : decide ((ji129) < (t371.size : Int)) = true := decide_eq_true c131
                        clear c131
                        by_cases c133 : (bt t371 x269_5) = (bt t371 (ji129))
                        ·rw [if_pos c133] at H
                         have c133b0 : ((bt t371 x269_5) == (bt t371 (ji129))) = true := beq_iff_eq.mpr c133
                         have c133b1 : ((bt t371 x269_5) != (bt t371 (ji129))) = false := bne_eq_false_iff_eq.mpr c133
                         clear c133
                         exact absurd H (by simp)
                        ·rw [if_neg c133] at H
                         have c133b0 : ((bt t371 x269_5) == (bt t371 (ji129))) = false := beq_eq_false_iff_ne.mpr c133
                         have c133b1 : ((bt t371 x269_5) != (bt t371 (ji129))) = true := bne_iff_ne.mpr c133
                         have H' := Aside0.mk H
                         clear H
                         have p128 : 0 ≤ (x269_5 : Int) := of_decide_eq_true (by first | (with_reducible assumption) | assumption)
                         have q128 : x269_5 < (t371.size : Int) := of_decide_eq_true (by first | (with_reducible assumption) | assumption)
                         have hx128 := bt_at t371 x269_5
                         replace p128 := eq_true p128
                         replace q128 := eq_true q128
                         have p132 : 0 ≤ ((ji129) : Int) := of_decide_eq_true (by first | (with_reducible assumption) | assumption)
                         have q132 : (ji129) < (t371.size : Int) := of_decide_eq_true (by first | (with_reducible assumption) | assumption)
                         have hx132 := bt_at t371 (ji129)
                         replace p132 := eq_true p132
                         replace q132 := eq_true q132
                         go_wp2
                         repeat (go_quiet (fail); try go_wp2)
                         go_roundg k5
                         case measure => have := HK2.out; have := HJ99.out; have := HK4.out; have := HK5.out; omega
                         case rel => exact ⟨(wrap64 (x269_5 + 1)), pos + 1, ⟨by have h1 := HX.out; have h2 := HBIG.out; unfold wrap64; omega⟩, H', ⟨by have := HK2.out; have := HJ99.out; have := HK4.out; have := HK5.out; omega⟩, ⟨by (with_reducible repeat (first | apply Kd.R_alloc | apply Kd.R_drewN | apply Kd.R_drew)); exact HO_11.out⟩, ⟨by (with_reducible repeat (first | apply Kd.R_alloc | apply Kd.R_drewN | apply Kd.R_drew)); exact HO_15.out⟩, ⟨by repeat (first | (with_reducible first | exact HB.out | apply below_alloc | apply pw_below_drewN | apply below_drew1) | exact HB.out)⟩, ⟨HIT.out.1, by first | exact HIT.out.2 | (simp only [World.drewN_heap]; exact HIT.out.2) | (simp; exact HIT.out.2)⟩⟩
                       ·rw [if_neg c131] at H
                        exact absurd H (by simp)
                      ·rw [if_neg c130] at H
                       exact absurd H (by simp)
                     ·rw [if_neg c127] at H
                      exact absurd H (by simp)
                    ·rw [if_neg c126] at H
                     exact absurd H (by simp)
                  ·rw [if_neg casc] at H; exact absurd H (by simp)
                 ·rw [if_neg cbig] at H; exact absurd H (by simp)
                ·rw [if_neg c120] at H
                 have c120b0 : decide (x269_5 < (t371.size : Int)) = false := decide_eq_false c120
                 have hp : ¬ pos < t371.size := by have h1 := HX.out; omega
                 have hnx : ∀ ty, (Instr.next (.pointer (some ⟨G, 0, none⟩)) true ty).run Try.prog wr = _ := fun ty => Lib.run_next_end_at wr G t371 pos ty HIT.out.2 hp
                 clear hp
                 clear c120
                 by_cases c134 : t349 > 0
                 ·rw [if_pos c134] at H
                  have c134b0 : decide (0 < t349) = true := decide_eq_true c134
                  clear c134
                  replace H := Option.bind_eq_some_iff.mp H
                  obtain ⟨⟨t383, t384⟩, A1350, H⟩ := H
                  (try dsimp only at H)
                  have A135 := Aside0.mk A1350
                  clear A1350
                  by_cases c136 : t384 = true
                  ·subst c136
                   rw [if_pos rfl] at H
                   obtain ⟨ji137, hji137⟩ : ∃ j_ : Int, (wrap64 ((t371.size : Int) / 2)) = j_ := ⟨_, rfl⟩
                   replace H : (if 0 ≤ (ji137) then (if (ji137) ≤ (t371.size : Int) then (if (t371.extract 0 ((ji137) : Int).toNat).toList = t383.toList then (laws_FnFoldsStack.j5 k5 l1 t350 t351 t352 t355 t363 t371 t375 t376) else (some false)) else (none)) else (none)) = some true := by first | (rw [hji137] at H; exact H) | (simp only [hji137] at H ⊢; exact H)
                   (try rw [hji137] at A135)
                   have hji137w : (IntKind.i64.wrap ((t371.size : Int) / 2)) = ji137 := (i64_w _).trans hji137
                   by_cases c138 : 0 ≤ (ji137)
                   ·rw [if_pos c138] at H
                    have c138b0 := eq_true c138
                    have c138b1 : decide (0 ≤ (ji137)) = true := decide_eq_true c138
                    clear c138
                    by_cases c139 : (ji137) ≤ (t371.size : Int)
                    ·rw [if_pos c139] at H
                     have c139b0 := eq_true c139
                     have c139b1 : decide ((ji137) ≤ (t371.size : Int)) = true := decide_eq_true c139
                     clear c139
                     by_cases c140 : (t371.extract 0 ((ji137) : Int).toNat).toList = t383.toList
                     ·rw [if_pos c140] at H
                      have c140b0 : ((t371.extract 0 ((ji137) : Int).toNat).toList == t383.toList) = true := beq_iff_eq.mpr c140
                      have c140b1 : ((t371.extract 0 ((ji137) : Int).toNat).toList != t383.toList) = false := bne_eq_false_iff_eq.mpr c140
                      clear c140
                      have H' := Aside0.mk H
                      clear H
                      go_wp2_with (first | (go_at_call 14; (with_reducible refine (impl_CreasesOf.calls k5 (wrap64 (t349 - 1)) t383 true _ A135.out).mono ?_); rintro e w141 ⟨rfl, hb⟩; have n0_ := Aside0.mk (Kd.R_below (by (with_reducible repeat (first | apply Kd.R_alloc | apply Kd.R_drewN | apply Kd.R_drew)); exact HO_11.out) hb); have n1_ := Aside0.mk (Kd.R_below (by (with_reducible repeat (first | apply Kd.R_alloc | apply Kd.R_drewN | apply Kd.R_drew)); exact HO_15.out) hb); have n2_ := Aside0.mk (below_step (by repeat (first | (with_reducible first | exact HB.out | apply below_alloc | apply pw_below_drewN | apply below_drew1) | exact HB.out)) hb); clear HO_11; clear HO_15; clear HB; have HO_11 := n0_; have HO_15 := n1_; have HB := n2_; clear n0_ n1_ n2_; (try clear hb); (try clear hb2); (try clear hk); (try clear hi)))
                      repeat (go_quiet (first | (go_at_call 14; (with_reducible refine (impl_CreasesOf.calls k5 (wrap64 (t349 - 1)) t383 true _ A135.out).mono ?_); rintro e w141 ⟨rfl, hb⟩; have n0_ := Aside0.mk (Kd.R_below (by (with_reducible repeat (first | apply Kd.R_alloc | apply Kd.R_drewN | apply Kd.R_drew)); exact HO_11.out) hb); have n1_ := Aside0.mk (Kd.R_below (by (with_reducible repeat (first | apply Kd.R_alloc | apply Kd.R_drewN | apply Kd.R_drew)); exact HO_15.out) hb); have n2_ := Aside0.mk (below_step (by repeat (first | (with_reducible first | exact HB.out | apply below_alloc | apply pw_below_drewN | apply below_drew1) | exact HB.out)) hb); clear HO_11; clear HO_15; clear HB; have HO_11 := n0_; have HO_15 := n1_; have HB := n2_; clear n0_ n1_ n2_; (try clear hb); (try clear hb2); (try clear hk); (try clear hi))); try go_wp2_with (first | (go_at_call 14; (with_reducible refine (impl_CreasesOf.calls k5 (wrap64 (t349 - 1)) t383 true _ A135.out).mono ?_); rintro e w141 ⟨rfl, hb⟩; have n0_ := Aside0.mk (Kd.R_below (by (with_reducible repeat (first | apply Kd.R_alloc | apply Kd.R_drewN | apply Kd.R_drew)); exact HO_11.out) hb); have n1_ := Aside0.mk (Kd.R_below (by (with_reducible repeat (first | apply Kd.R_alloc | apply Kd.R_drewN | apply Kd.R_drew)); exact HO_15.out) hb); have n2_ := Aside0.mk (below_step (by repeat (first | (with_reducible first | exact HB.out | apply below_alloc | apply pw_below_drewN | apply below_drew1) | exact HB.out)) hb); clear HO_11; clear HO_15; clear HB; have HO_11 := n0_; have HO_15 := n1_; have HB := n2_; clear n0_ n1_ n2_; (try clear hb); (try clear hb2); (try clear hk); (try clear hi))))
                      go_meet
                      case rel => exact ⟨_, H', ⟨by have := HK2.out; have := HJ99.out; have := HK4.out; have := HK5.out; first | omega | exact Nat.le_refl _⟩, ⟨by (with_reducible repeat (first | apply Kd.R_alloc | apply Kd.R_drewN | apply Kd.R_drew)); exact HO_11.out⟩, ⟨by (with_reducible repeat (first | apply Kd.R_alloc | apply Kd.R_drewN | apply Kd.R_drew)); exact HO_15.out⟩, ⟨by repeat (first | (with_reducible first | exact HB.out | apply below_alloc | apply pw_below_drewN | apply below_drew1) | exact HB.out)⟩⟩
                     ·rw [if_neg c140] at H
                      have c140b0 : ((t371.extract 0 ((ji137) : Int).toNat).toList == t383.toList) = false := beq_eq_false_iff_ne.mpr c140
                      have c140b1 : ((t371.extract 0 ((ji137) : Int).toNat).toList != t383.toList) = true := bne_iff_ne.mpr c140
                      exact absurd H (by simp)
                    ·rw [if_neg c139] at H
                     exact absurd H (by simp)
                   ·rw [if_neg c138] at H
                    exact absurd H (by simp)
                  ·replace c136 := Bool.eq_false_iff.mpr c136
                   subst c136
                   rw [if_neg (show ¬ (false = true) by decide)] at H
                   exact absurd H (by simp)
                 ·rw [if_neg c134] at H
                  have c134b0 : decide (0 < t349) = false := decide_eq_false c134
                  clear c134
                  have H' := Aside0.mk H
                  clear H
                  go_wp2
                  repeat (go_quiet (fail); try go_wp2)
                  go_meet
                  case rel => exact ⟨_, H', ⟨by have := HK2.out; have := HJ99.out; have := HK4.out; have := HK5.out; first | omega | exact Nat.le_refl _⟩, ⟨by (with_reducible repeat (first | apply Kd.R_alloc | apply Kd.R_drewN | apply Kd.R_drew)); exact HO_11.out⟩, ⟨by (with_reducible repeat (first | apply Kd.R_alloc | apply Kd.R_drewN | apply Kd.R_drew)); exact HO_15.out⟩, ⟨by repeat (first | (with_reducible first | exact HB.out | apply below_alloc | apply pw_below_drewN | apply below_drew1) | exact HB.out)⟩⟩
    ·replace c98 := Bool.eq_false_iff.mpr c98
     subst c98
     rw [if_neg (show ¬ (false = true) by decide)] at H
     have H' := Aside0.mk H
     clear H
     go_wp2
     repeat (go_quiet (fail); try go_wp2)
     go_meet
     case rel => exact ⟨_, H', ⟨by first | omega | exact Nat.le_refl _⟩, ⟨by (with_reducible repeat (first | apply Kd.R_alloc | apply Kd.R_drewN | apply Kd.R_drew)); exact HO_11.out⟩, ⟨by (with_reducible repeat (first | apply Kd.R_alloc | apply Kd.R_drewN | apply Kd.R_drew)); exact HO_15.out⟩, ⟨by repeat (first | (with_reducible first | exact HB.out | apply below_alloc | apply pw_below_drewN | apply below_drew1) | exact HB.out)⟩⟩
   case rest =>
    clear HC97
    try clear p1; try clear q1; try clear hx1; try clear p2; try clear p3; try clear q3; try clear hx3; try clear p6; try clear c10; try clear c11; try clear c12; try clear p12; try clear q12; try clear hx12; try clear c13; try clear p13; try clear q13; try clear hx13; try clear c14; try clear c26; try clear c26b0; try clear c26b1; try clear c26b2; try clear c27; try clear c27b0; try clear c27b1; try clear c28; try clear c28b0; try clear c28b1; try clear c28b2; try clear c30; try clear c31; try clear c31b0; try clear c31b1; try clear c31b2; try clear c35; try clear c36; try clear c36b0; try clear c36b1; try clear c36b2; try clear p38; try clear q38; try clear hx38; try clear c41; try clear c41b0; try clear c41b1; try clear c42; try clear c42b0; try clear c42b1; try clear c42b2; try clear c47; try clear c47b0; try clear c47b1; try clear c48; try clear c48b0; try clear c48b1; try clear c48b2; try clear c53; try clear c53b0; try clear c53b1; try clear c53b2; try clear c58; try clear c59; try clear c60; try clear p64; try clear c73; try clear c96; try clear c98; try clear c99; try clear c99b0; try clear c101; try clear c101b0; try clear c101b1; try clear c102; try clear c102b0; try clear c102b1; try clear c108; try clear c110; try clear c110b0; try clear c111; try clear c111b0; try clear c112; try clear c112b0; try clear c113; try clear c113b0; try clear c114; try clear c114b0; try clear c116; try clear c116b0; try clear c117; try clear c117b0; try clear c118; try clear c118b0; try clear c118b1; try clear c120; try clear c120b0; try clear c121; try clear c121b0; try clear c121b1; try clear c122; try clear c122b0; try clear c123; try clear c123b0; try clear p124; try clear q124; try clear hx124; try clear c125; try clear c125b0; try clear c125b1; try clear c126; try clear c126b0; try clear c127; try clear c127b0; try clear p128; try clear q128; try clear hx128; try clear c130; try clear c130b0; try clear c131; try clear c131b0; try clear p132; try clear q132; try clear hx132; try clear c133; try clear c133b0; try clear c133b1; try clear c134; try clear c134b0; try clear c136; try clear c138; try clear c138b0; try clear c138b1; try clear c139; try clear c139b0; try clear c139b1; try clear c140; try clear c140b0; try clear c140b1; try clear hx381_0; try clear hx382_0; try clear p124; try clear p128; try clear p132; try clear p2; try clear p3; try clear p38; try clear p381; try clear p382; try clear p6; try clear p64; try clear q124; try clear q128; try clear q132; try clear q3; try clear q38; try clear q381; try clear q382
    obtain ⟨kq, HA, HJ96, HO_11, HO_15, HB⟩ := hcut
    rename_i K1 a1
    exact nx A1 c1 l1 w HR1 HC1 t350 t351 t352 t355 t363 t371 t375 t376 v365 v357 kq wc HA HO_11 HO_15 HB _ _ _ _ _ _ _ _ _ _ _ _ _ _ _ _ _ _ _ _ _ _ _ _ _ _ _ _ _ _ _ _ _ _ _ _ _ _ _ _ _ _ _ _ _ _ _ _ _ _ _ _ _ _ _ _ _ _ _ _ _ _ _ _ _ _ _ _ _ _ _ _ _ _ _ _ _ _ _ _ _ _ _ _ _ _ _ _ _ _ _ _ _ _ _ _ _ _ _ _ _ _ _ _ _ _ _ _ _ _ _ _ _ _ _ _ _ _ _ _ _ _ _ _ _ _ _ _ _ _ _ _ _ _ _ _ _ _ _ _ _ _ _ _ _ _ _ _ _ _ _ _ _ _ _ _ _ _ _ _ _ _ _ _ _ _ _ _ _ _ _ _ _ _ _ _ _ _ _ _ _ _ _ _ _ _ _ _ _ _ _ _ _ _ _ _ _ _ _ _ _ _ _ _ _ _ _ _ _ _ _ _ _ _ _ _ _ _ _ _ _ _ _ _ _ _ _ _ _ _ _ _ _ _ _ _ _ _ _ _ _ _ _ _ _ _ _ _ _ _ _ _ _ _ _ _ _ _ _ _ _ _ _ _ _ _ _ _ _ _ _ _ _ _ _ _ _ _ _ _ _ _ _ _ _ _ _ _ _ _ _ _ _ _ _ _ _ _ _ _ _ _ _ _ _ _ _ _ _ _ _ _ _ _ _ _ _ _ _ _ _ _ _ _ _ _ _ _ _ _ _ _ _ _ _ _ _ _ _ _ _ _ _ _ _ _ _ _ _ _ _ _ _ _ _ _ _ _ _ _ _ _ _ _ _ _ _ _ _ _ _ _ _ _ _ _ _ _ _ _ _ _ _ _ _ _ _ _ _ _ _ _ _ _ _ _ _ _ _ _ _ _ _ _ _ _ _ _ _ _ _ _ _ _ _ _ _ _ _ _ _ _ _ _ _ _ _ _ _ _ _ _ _ _ _ _ _ _ _ _ _ _ _ _ _ _ _ _ _ _ _ _ _ _ _ _ _ _ _ _ _ _ _ _ _ _ _ _ _ _ _ _ _ _ _ _ _ _ _ _ _ _ _ _ _ _ _ _ _ _ _ _ _ _ _ _ _ _ _ _ _ _ _ _ _ _ _ _ _ _ _ _ _ _ _ _ _ _ _ _ _ _ _ _ _ _ _ _ _ _ _ _ _ _ _ _ _ _ _ _ _ _ _ _ _ _ _ _ _ _ _ _ _ _ _ _ _ _ _ _ _ _ _ _ _ _ _ _ _ _ _ _ _ _ _ _ _ _ _ _ _ _ _ _ _ _ _ _ _ _ _ _ _ _ _ _ _ _ _ _ _ _ _ _ _ _ _ _ _ _ _ _ _ _ _ _ _ _ _ _ _ _ _ _ _ _ _ _ _ _ _ _ _ _ _ _ _ _ _ _ _ _ _ _ _ _ _ _ _ _ _ _ K1 a1

end Go.Proofs.Ytjkfgeigicljpaa.PFnFoldsStack
