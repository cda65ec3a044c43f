-- WRITTEN BY A PROGRAM OF THIS SESSION (xprint), out of the translation: not trusted: it is checked as any text
import Derived.Test.YtjkfgeigicljpaaGreatDoorPFnPagesNumberedx13
namespace Go.Proofs.YtjkfgeigicljpaaGreatDoor.PFnPagesNumbered
open Go.RowKit Go.Proofs.YtjkfgeigicljpaaGreatDoorW.PrintWords Go.Proofs.YtjkfgeigicljpaaGreatDoorW.PrintLast Go.Proofs.YtjkfgeigicljpaaGreatDoorW.PrintMore
attribute [local go_sem] max2_int min2_int max_two min_two max_three min_three max_four min_four
set_option linter.unusedVariables false
set_option linter.unusedSimpArgs false

set_option maxHeartbeats 40000000 in
set_option maxRecDepth 1000000 in
theorem laws_FnPagesNumbered.p30 : laws_FnPagesNumbered.P30 := by
 unfold laws_FnPagesNumbered.P30
 intro w HE HG t434 t437 t438 t441 t442 t443 v444 Ao75 co75 kq wc HA HO_45 HO_51 HB _ _ _ _ _ _ _ _ _ _ _ _ _ _ _ _ _ _ _ _ _ _ _ _ _ _ _ _ _ _ _ _ _ _ _ _ _ _ _ _ _ _ _ _ _ _ _ _ _ _ _ _ _ _ _ _ _ _ _ _ _ _ _ _ _ _ _ _ _ _ _ _ _ _ _ _ _ _ _ _ _ _ _ _ _ _ _ _ _ _ _ _ _ _ _ _ _ _ _ _ _ _ _ _ _ _ _ _ _ _ _ _ _ _ _ _ _ _ _ _ _ _ _ _ _ _ _ _ _ _ _ _ _ _ _ _ _ _ _ _ _ _ _ _ _ _ _ _ _ _ _ _ _ _ _ _ _ _ _ _ _ _ _ _ _ _ _ _ _ _ _ _ _ _ _ _ _ _ _ _ _ _ _ _ _ _ _ _ _ _ _ _ _ _ _ _ _ _ _ _ _ _ _ _ _ _ _ _ _ _ _ _ _ _ _ _ _ _ _ _ _ _ _ _ _ _ _ _ _ _ _ _ _ _ _ _ _ _ _ _ _ _ _ _ _ _ _ _ _ _ _ _ _ _ _ _ _ _ _ _ _ _ _ _ _ _ _ _ _ _ _ _ _ _ _ _ _ _ _ _ _ _ _ _ _ _ _ _ _ _ _ _ _ _ _ _ _ _ _ _ _ _ _ _ _ _ _ _ _ _ _ _ _ _ _ _ _ _ _ _ _ _ _ _ _ _ _ _ _ _ _ _ _ _ _ _ _ _ _ _ _ _ _ _ _ _ _ _ _ _ _ _ _ _ _ _ _ _ _ _ _ _ _ _ _ _ _ _ _ _ _ _ _ _ _ _ _ _ _ _ _ _ _ _ _ _ _ _ _ _ _ _ _ _ _ _ _ _ _ _ _ _ _ _ _ _ _ _ _ _ _ _ _ _ _ _ _ _ _ _ _ _ _ _ _ _ _ _ _ _ _ _ _ _ _ _ _ _ _ _ _ _ _ _ _ _ _ _ _ Q' K1 a1
 conv at a1 => intro a w; lhs; arg 2; whnf
 try dsimp only
 cases kq with
 | zero => exact absurd HA.out (by simp [laws_FnPagesNumbered.j11])
 | succ kj119 =>
  have H := HA.out
  clear HA
  simp only [laws_FnPagesNumbered.j11] at H
  by_cases c126 : t438 = true
  ·subst c126
   rw [if_pos rfl] at H
   replace H := Xs.mp H
   obtain ⟨⟨t460, t461⟩, A1270, H⟩ := H
   (try dsimp only at H)
   have A127 := Aside0.mk A1270
   clear A1270
   have HC128 := Aside0.mk H
   clear H
   go_upto_region 73 with (first | ((with_reducible refine gate_callee (f := 25) rfl ?_); refine goesL_ (some 427) rfl rfl Tryz.func25 (by kernel_rfl) rfl #[.string t437] rfl (by (try simp only [Xp, Xq, Xr]); first | done | rfl) ?_; (with_reducible refine (impl_ParsePages.calls kj119 t437 t460 t461 _ (by exact strconv_Itoa.tab HG.out (by repeat (with_reducible first | exact HB.out | apply Xc | apply Xa | apply Xb))) (by exact LibVars.below HE.out (by repeat (with_reducible first | exact HB.out | apply Xc | apply Xa | apply Xb))) A127.out).mono ?_); rintro e w129 ⟨v462, rfl, ho0, hb⟩; refine ⟨_, rfl, ?_⟩; replace HO463 := Aside0.mk (Kd.R_lower (Kd.R_new' (Kd.R_new' ho0 (Kd.R_lt (by (with_reducible repeat (first | apply Xg | apply Xh | apply Xi)); exact HO_45.out))) (Kd.R_lt (by (with_reducible repeat (first | apply Xg | apply Xh | apply Xi)); exact HO_51.out))) (Xf (by repeat (with_reducible first | exact HB.out | apply Xc | apply Xa | apply Xb)))); replace HO_45 := Aside0.mk (Xy (by (with_reducible repeat (first | apply Xg | apply Xh | apply Xi)); exact HO_45.out) (Kd.R_base ho0) hb); replace HO_51 := Aside0.mk (Xy (by (with_reducible repeat (first | apply Xg | apply Xh | apply Xi)); exact HO_51.out) (Kd.R_base ho0) hb); replace HB := Aside0.mk (Xd (by repeat (with_reducible first | exact HB.out | apply Xc | apply Xa | apply Xb)) hb); (try clear hb); (try clear ho0)))
   (try simp only [Act.put, Xm, Xn, Xo])
   go_cut [442] from 412 to 442 (fun v442 wc => ∃ (kq : Nat) (x442_127 : Bool), v442 = .bool x442_127 ∧ Aside0 (laws_FnPagesNumbered.j12 kq t441 t442 t443 x442_127 = some true) ∧ Aside0 (kq ≤ kj119) ∧ Aside0 (Kd.R (Kd.int .i64) 3 wc w.heap.size (fun _ => True) v444 t442) ∧ Aside0 (Below w.heap.size w wc))
   case first =>
    try clear A3; try clear A5; try clear A6; try clear A7; try clear A8; try clear A9; try clear A10; try clear A11; try clear A29; try clear A32; try clear A46; try clear A50; try clear A51; try clear A52; try clear A53; try clear A54; try clear A55; try clear A56; try clear A57; try clear A58; try clear A59; try clear A60; try clear A61; try clear A62; try clear A63; try clear A64; try clear A91; try clear A97; try clear A103; try clear A109; try clear A114; try clear A122; try clear A127
    (try simp only [List.append_eq, List.cons_append, List.nil_append])
    have H := HC128.out
    clear HC128
    by_cases c130 : t461 = true
    ·subst c130
     rw [if_pos rfl] at H
     replace H := Xs.mp H
     obtain ⟨t464, A1310, H⟩ := H
     (try dsimp only at H)
     have A131 := Aside0.mk A1310
     clear A1310
     by_cases c132 : t464 = true
     ·subst c132
      rw [if_pos rfl] at H
      replace H := Xs.mp H
      obtain ⟨t465, A1330, H⟩ := H
      (try dsimp only at H)
      have A133 := Aside0.mk A1330
      clear A1330
      have H' := Aside0.mk H
      clear H
      obtain ⟨Ao134, co134, eo134⟩ := Kd.R_slice HO463.out
      subst eo134
      go_wp2_with (first | (go_at_call 27; (with_reducible refine (laws_xSame.calls kj119 _ _ t460 _ _ t434 true _ ?side1 ?side2 ?side3 ?side4 A131.out).mono ?_); (case side1 => repeat (first | exact (Kd.R_reads' HO463.out).2.2 | (with_reducible refine Xj ?_ _) | (with_reducible refine Xk ?_ _) | (with_reducible refine Xl ?_))); (case side2 => exact (Kd.R_reads' HO463.out).2.1); (case side3 => repeat (first | exact (Kd.R_reads' HO_45.out).2.2 | (with_reducible refine Xj ?_ _) | (with_reducible refine Xk ?_ _) | (with_reducible refine Xl ?_))); (case side4 => exact (Kd.R_reads' HO_45.out).2.1); rintro e w' ⟨rfl, ⟨nd, rfl⟩⟩) | (go_at_call 29; (with_reducible refine (laws_xRises.calls kj119 _ _ t434 t465 _ ?side1 ?side2 A133.out).mono ?_); (case side1 => repeat (first | exact (Kd.R_reads' HO_45.out).2.2 | (with_reducible refine Xj ?_ _) | (with_reducible refine Xk ?_ _) | (with_reducible refine Xl ?_))); (case side2 => exact (Kd.R_reads' HO_45.out).2.1); rintro e w' ⟨rfl, ⟨nd, rfl⟩⟩))
      go_meet
      case rel => exact ⟨_, (!t465), (by first | rfl | simp | simp [*]), H', ⟨by first | omega | exact Nat.le_refl _⟩, ⟨by (with_reducible repeat (first | apply Xg | apply Xh | apply Xi)); exact Kd.R_mono HO_51.out (fun _ hk => trivial)⟩, ⟨by repeat (with_reducible first | exact HB.out | apply Xc | apply Xa | apply Xb)⟩⟩
     ·replace c132 := Bool.eq_false_iff.mpr c132
      subst c132
      rw [if_neg (show ¬ (false = true) by decide)] at H
      exact absurd H laws_FnPagesNumbered.j12_dead
    ·replace c130 := Bool.eq_false_iff.mpr c130
     subst c130
     rw [if_neg (show ¬ (false = true) by decide)] at H
     exact absurd H laws_FnPagesNumbered.j12_dead
   case rest =>
    clear HC128
    try clear p2; try clear p6; try clear c10; try clear c11; try clear c12; try clear c13; try clear c14; try clear c15; try clear c16; try clear c17; try clear c18; try clear c18b0; try clear c18b1; try clear c18b2; try clear c19; try clear c19b0; try clear c19b1; try clear c20; try clear c20b0; try clear c20b1; try clear c20b2; try clear c21; try clear c21b0; try clear c21b1; try clear c22; try clear c22b0; try clear c22b1; try clear c22b2; try clear c23; try clear c23b0; try clear c23b1; try clear c24; try clear c24b0; try clear c24b1; try clear c24b2; try clear c25; try clear c26; try clear c28; try clear c31; try clear c31b0; try clear c33; try clear c35; try clear c36; try clear c36b0; try clear c36b1; try clear c37; try clear c37b0; try clear c37b1; try clear c38; try clear c38b0; try clear c40; try clear c42; try clear c42b0; try clear c43; try clear c43b0; try clear c44; try clear c45; try clear c45b0; try clear c47; try clear c48; try clear c48b0; try clear p64; try clear c81; try clear c81b0; try clear c81b1; try clear c81b2; try clear c82; try clear c82b0; try clear c82b1; try clear c83; try clear c83b0; try clear c83b1; try clear c83b2; try clear c84; try clear c84b0; try clear c84b1; try clear c85; try clear c85b0; try clear c85b1; try clear c86; try clear c86b0; try clear c86b1; try clear c86b2; try clear c87; try clear c87b0; try clear c87b1; try clear c88; try clear c88b0; try clear c88b1; try clear c88b2; try clear c89; try clear c89b0; try clear c89b1; try clear c90; try clear c90b0; try clear c90b1; try clear c90b2; try clear c94; try clear c96; try clear c100; try clear c101; try clear c102; try clear c102b0; try clear c104; try clear c105; try clear c105b0; try clear c108; try clear c112; try clear c113; try clear c113b0; try clear c115; try clear c115b0; try clear c116; try clear c116b0; try clear c117; try clear c118; try clear c118b0; try clear c119; try clear c119b0; try clear c119b1; try clear c121; try clear c123; try clear c124; try clear c124b0; try clear c124b1; try clear c126; try clear c130; try clear c132; try clear p2; try clear p6; try clear p64
    obtain ⟨kq, x442_127, rfl, HA, HJ127, HO_51, HB⟩ := hcut
    cases kq with
    | zero => exact absurd HA.out (by simp [laws_FnPagesNumbered.j12])
    | succ kj127 =>
     have H := HA.out
     clear HA
     simp only [laws_FnPagesNumbered.j12] at H
     by_cases c136 : x442_127 = true
     ·subst c136
      rw [if_pos rfl] at H
      exact absurd H (by simp)
     ·replace c136 := Bool.eq_false_iff.mpr c136
      subst c136
      rw [if_neg (show ¬ (false = true) by decide)] at H
      by_cases c137 : t443 = true
      ·subst c137
       rw [if_pos rfl] at H
       replace H := Xs.mp H
       obtain ⟨⟨t466, t467⟩, A1380, H⟩ := H
       (try dsimp only at H)
       have A138 := Aside0.mk A1380
       clear A1380
       by_cases c139 : t467 = true
       ·subst c139
        rw [if_pos rfl] at H
        replace H := Option.some.inj H
        obtain ⟨Ao140, co140, eo140⟩ := Kd.R_slice HO_51.out
        subst eo140
        go_wp2_with (first | ((with_reducible refine gate_callee (f := 22) rfl ?_); refine goesL_ (some 446) rfl rfl Tryz.func22 (by kernel_rfl) rfl #[.slice Ao140 t442.length co140] rfl (by (try simp only [Xp, Xq, Xr]); first | done | rfl) ?_; (with_reducible refine (impl_PagesText.calls kj127 _ _ t442 t466 true _ ?side1 ?side2 (by exact strconv_Itoa.tab HG.out (by repeat (with_reducible first | exact HB.out | apply Xc | apply Xa | apply Xb))) A138.out).mono ?_); (case side1 => repeat (first | exact (Kd.R_reads' HO_51.out).2.2 | (with_reducible refine Xj ?_ _) | (with_reducible refine Xk ?_ _) | (with_reducible refine Xl ?_))); (case side2 => exact (Kd.R_reads' HO_51.out).2.1); rintro e w141 ⟨rfl, hb⟩; refine ⟨_, rfl, ?_⟩; replace HO_51 := Aside0.mk (Xx (by (with_reducible repeat (first | apply Xg | apply Xh | apply Xi)); exact HO_51.out) hb); replace HB := Aside0.mk (Xd (by repeat (with_reducible first | exact HB.out | apply Xc | apply Xa | apply Xb)) hb); (try clear hb)))
        go_ret
        exact ⟨by first | rfl | (simp [*, errW_none, errW_some] <;> rfl), by repeat (with_reducible first | exact HB.out | apply Xc | apply Xa | apply Xb)⟩
       ·replace c139 := Bool.eq_false_iff.mpr c139
        subst c139
        rw [if_neg (show ¬ (false = true) by decide)] at H
        exact absurd H (by simp)
      ·replace c137 := Bool.eq_false_iff.mpr c137
       subst c137
       rw [if_neg (show ¬ (false = true) by decide)] at H
       clear H
       go_wp2
       go_ret
       exact ⟨by first | rfl | (simp [*, errW_none, errW_some] <;> rfl), by repeat (with_reducible first | exact HB.out | apply Xc | apply Xa | apply Xb)⟩
  ·replace c126 := Bool.eq_false_iff.mpr c126
   subst c126
   rw [if_neg (show ¬ (false = true) by decide)] at H
   by_cases c142 : t443 = true
   ·subst c142
    rw [if_pos rfl] at H
    replace H := Xs.mp H
    obtain ⟨⟨t468, t469⟩, A1430, H⟩ := H
    (try dsimp only at H)
    have A143 := Aside0.mk A1430
    clear A1430
    by_cases c144 : t469 = true
    ·subst c144
     rw [if_pos rfl] at H
     replace H := Option.some.inj H
     obtain ⟨Ao145, co145, eo145⟩ := Kd.R_slice HO_51.out
     subst eo145
     go_wp2_with (first | ((with_reducible refine gate_callee (f := 22) rfl ?_); refine goesL_ (some 446) rfl rfl Tryz.func22 (by kernel_rfl) rfl #[.slice Ao145 t442.length co145] rfl (by (try simp only [Xp, Xq, Xr]); first | done | rfl) ?_; (with_reducible refine (impl_PagesText.calls kj119 _ _ t442 t468 true _ ?side1 ?side2 (by exact strconv_Itoa.tab HG.out (by repeat (with_reducible first | exact HB.out | apply Xc | apply Xa | apply Xb))) A143.out).mono ?_); (case side1 => repeat (first | exact (Kd.R_reads' HO_51.out).2.2 | (with_reducible refine Xj ?_ _) | (with_reducible refine Xk ?_ _) | (with_reducible refine Xl ?_))); (case side2 => exact (Kd.R_reads' HO_51.out).2.1); rintro e w146 ⟨rfl, hb⟩; refine ⟨_, rfl, ?_⟩; replace HO_45 := Aside0.mk (Xx (by (with_reducible repeat (first | apply Xg | apply Xh | apply Xi)); exact HO_45.out) hb); replace HO_51 := Aside0.mk (Xx (by (with_reducible repeat (first | apply Xg | apply Xh | apply Xi)); exact HO_51.out) hb); replace HB := Aside0.mk (Xd (by repeat (with_reducible first | exact HB.out | apply Xc | apply Xa | apply Xb)) hb); (try clear hb)))
     go_ret
     exact ⟨by first | rfl | (simp [*, errW_none, errW_some] <;> rfl), by repeat (with_reducible first | exact HB.out | apply Xc | apply Xa | apply Xb)⟩
    ·replace c144 := Bool.eq_false_iff.mpr c144
     subst c144
     rw [if_neg (show ¬ (false = true) by decide)] at H
     exact absurd H (by simp)
   ·replace c142 := Bool.eq_false_iff.mpr c142
    subst c142
    rw [if_neg (show ¬ (false = true) by decide)] at H
    clear H
    go_wp2
    go_ret
    exact ⟨by first | rfl | (simp [*, errW_none, errW_some] <;> rfl), by repeat (with_reducible first | exact HB.out | apply Xc | apply Xa | apply Xb)⟩

end Go.Proofs.YtjkfgeigicljpaaGreatDoor.PFnPagesNumbered
