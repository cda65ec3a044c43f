-- WRITTEN BY A PROGRAM OF THIS SESSION (xprint), out of the translation: not trusted: it is checked as any text
import Derived.Test.YtjkfgeigicljpaaGreatDoorPFnPagesNumberedx13
namespace Go.Proofs.YtjkfgeigicljpaaGreatDoor.PFnPagesNumbered
open Go.RowKit Go.Proofs.YtjkfgeigicljpaaGreatDoorW.PrintWords Go.Proofs.YtjkfgeigicljpaaGreatDoorW.PrintLast Go.Proofs.YtjkfgeigicljpaaGreatDoorW.PrintMore
attribute [local go_sem] max2_int min2_int max_two min_two max_three min_three max_four min_four
set_option linter.unusedVariables false
set_option linter.unusedSimpArgs false

set_option maxHeartbeats 40000000 in
set_option maxRecDepth 1000000 in
theorem laws_FnPagesNumbered.p28 (nx : laws_FnPagesNumbered.P29) : laws_FnPagesNumbered.P28 := by
 unfold laws_FnPagesNumbered.P28
 intro l1 w HE HG t422 t423 t424 t425 t429 t430 t431 t434 t437 t438 t441 t442 t443 v444 Ao75 co75 kq wc HA HO_45 HO_51 HB _ _ _ _ _ _ _ _ _ _ _ _ _ _ _ _ _ _ _ _ _ _ _ _ _ _ _ _ _ _ _ _ _ _ _ _ _ _ _ _ _ _ _ _ _ _ _ _ _ _ _ _ _ _ _ _ _ _ _ _ _ _ _ _ _ _ _ _ _ _ _ _ _ _ _ _ _ _ _ _ _ _ _ _ _ _ _ _ _ _ _ _ _ _ _ _ _ _ _ _ _ _ _ _ _ _ _ _ _ _ _ _ _ _ _ _ _ _ _ _ _ _ _ _ _ _ _ _ _ _ _ _ _ _ _ _ _ _ _ _ _ _ _ _ _ _ _ _ _ _ _ _ _ _ _ _ _ _ _ _ _ _ _ _ _ _ _ _ _ _ _ _ _ _ _ _ _ _ _ _ _ _ _ _ _ _ _ _ _ _ _ _ _ _ _ _ _ _ _ _ _ _ _ _ _ _ _ _ _ _ _ _ _ _ _ _ _ _ _ _ _ _ _ _ _ _ _ _ _ _ _ _ _ _ _ _ _ _ _ _ _ _ _ _ _ _ _ _ _ _ _ _ _ _ _ _ _ _ _ _ _ _ _ _ _ _ _ _ _ _ _ _ _ _ _ _ _ _ _ _ _ _ _ _ _ _ _ _ _ _ _ _ _ _ _ _ _ _ _ _ _ _ _ _ _ _ _ _ _ _ _ _ _ _ _ _ _ _ _ _ _ _ _ _ _ _ _ _ _ _ _ _ _ _ _ _ _ _ _ _ _ _ _ _ _ _ _ _ _ _ _ _ _ _ _ _ _ _ _ _ _ _ _ _ _ _ _ _ _ _ _ _ _ _ _ _ _ _ _ _ _ _ _ _ _ _ _ _ _ _ _ _ _ _ _ _ _ _ _ _ _ _ _ _ _ _ _ _ _ _ _ _ _ _ _ _ _ _ _ _ _ _ _ _ _ _ _ _ _ _ _ _ _ _ _ _ _ _ _ _ _ _ Q' K1 a1
 conv at a1 => intro a w; lhs; arg 2; whnf
 try dsimp only
 cases kq with
 | zero => exact absurd HA.out (by simp [laws_FnPagesNumbered.j7])
 | succ kj94 =>
  have H := HA.out
  clear HA
  simp only [laws_FnPagesNumbered.j7] at H
  have HC107 := Aside0.mk H
  clear H
  go_upto_if 369 with (fail)
  go_cut [] from 353 to 369 (fun wc => ∃ (kq : Nat), Aside0 (laws_FnPagesNumbered.j10 kq t429 t430 t431 t434 t437 t438 t441 t442 t443 = some true) ∧ Aside0 (kq ≤ kj94) ∧ Aside0 (Kd.R (Kd.int .i64) 3 wc w.heap.size (fun k_ => some k_ ≠ (v444 : Value).ownBlock) (.slice Ao75 t434.length co75) t434) ∧ Aside0 (Kd.R (Kd.int .i64) 3 wc w.heap.size (fun k_ => some k_ ≠ ((.slice Ao75 t434.length co75) : Value).ownBlock) v444 t442) ∧ Aside0 (Below w.heap.size w wc))
  case first =>
   try clear A3; try clear A5; try clear A6; try clear A7; try clear A8; try clear A9; try clear A10; try clear A11; try clear A29; try clear A32; try clear A46; try clear A50; try clear A51; try clear A52; try clear A53; try clear A54; try clear A55; try clear A56; try clear A57; try clear A58; try clear A59; try clear A60; try clear A61; try clear A62; try clear A63; try clear A64; try clear A91; try clear A97; try clear A103
   (try simp only [List.append_eq, List.cons_append, List.nil_append])
   have H := HC107.out
   clear HC107
   by_cases c108 : t425 = true
   ·subst c108
    rw [if_pos rfl] at H
    replace H := Xs.mp H
    obtain ⟨⟨t455, t456⟩, A1090, H⟩ := H
    (try dsimp only at H)
    have A109 := Aside0.mk A1090
    clear A1090
    have HC110 := Aside0.mk H
    clear H
    go_upto_region 58 with (first | ((with_reducible refine gate_callee (f := 10) rfl ?_); refine goesL_ (some 372) rfl rfl Tryz.func10 (by kernel_rfl) rfl #[.int .i64 t424] rfl (by (try simp only [Xp, Xq, Xr]); first | done | rfl) ?_; (with_reducible refine (impl_DigitsOfBook.calls kj94 t424 t455 t456 _ (by exact strconv_Itoa.tab HG.out (by repeat (with_reducible first | exact HB.out | apply Xc | apply Xa | apply Xb))) A109.out).mono ?_); rintro e w111 ⟨rfl, hb⟩; refine ⟨_, rfl, ?_⟩; replace HO_45 := Aside0.mk (Xx (by (with_reducible repeat (first | apply Xg | apply Xh | apply Xi)); exact HO_45.out) hb); replace HO_51 := Aside0.mk (Xx (by (with_reducible repeat (first | apply Xg | apply Xh | apply Xi)); exact HO_51.out) hb); replace HB := Aside0.mk (Xd (by repeat (with_reducible first | exact HB.out | apply Xc | apply Xa | apply Xb)) hb); (try clear hb)))
    (try simp only [Act.put, Xm, Xn, Xo])
    go_cut [397] from 370 to 397 (fun v397 wc => ∃ (kq : Nat) (x397_109 : Bool), v397 = .bool x397_109 ∧ Aside0 (laws_FnPagesNumbered.j8 kq t422 t423 t424 t429 t430 t431 t434 t437 t438 t441 t442 t443 t455 x397_109 = some true) ∧ Aside0 (kq ≤ kj94) ∧ Aside0 (Kd.R (Kd.int .i64) 3 wc w.heap.size (fun k_ => some k_ ≠ (v444 : Value).ownBlock) (.slice Ao75 t434.length co75) t434) ∧ Aside0 (Kd.R (Kd.int .i64) 3 wc w.heap.size (fun k_ => some k_ ≠ ((.slice Ao75 t434.length co75) : Value).ownBlock) v444 t442) ∧ Aside0 (Below w.heap.size w wc))
    case first =>
     try clear A3; try clear A5; try clear A6; try clear A7; try clear A8; try clear A9; try clear A10; try clear A11; try clear A29; try clear A32; try clear A46; try clear A50; try clear A51; try clear A52; try clear A53; try clear A54; try clear A55; try clear A56; try clear A57; try clear A58; try clear A59; try clear A60; try clear A61; try clear A62; try clear A63; try clear A64; try clear A91; try clear A97; try clear A103; try clear A109
     (try simp only [List.append_eq, List.cons_append, List.nil_append])
     have H := HC110.out
     clear HC110
     by_cases c112 : t456 = true
     ·subst c112
      rw [if_pos rfl] at H
      by_cases c113 : t455 < t422
      ·rw [if_pos c113] at H
       have c113b0 : decide (t455 < t422) = true := decide_eq_true c113
       clear c113
       (first | rw [c113b0] | (simp only [i64_w, i32_w]; rw [c113b0]) | skip)
       exact absurd H laws_FnPagesNumbered.j8_dead
      ·rw [if_neg c113] at H
       have c113b0 : decide (t455 < t422) = false := decide_eq_false c113
       clear c113
       (first | rw [c113b0] | (simp only [i64_w, i32_w]; rw [c113b0]) | skip)
       replace H := Xs.mp H
       obtain ⟨t457, A1140, H⟩ := H
       (try dsimp only at H)
       have A114 := Aside0.mk A1140
       clear A1140
       by_cases c115 : (wrap64 (t455 - t457)) ≥ t422
       ·rw [if_pos c115] at H
        have c115b0 : decide (t422 ≤ (wrap64 (t455 - t457))) = true := decide_eq_true c115
        clear c115
        exact absurd H laws_FnPagesNumbered.j8_dead
       ·rw [if_neg c115] at H
        have c115b0 : decide (t422 ≤ (wrap64 (t455 - t457))) = false := decide_eq_false c115
        clear c115
        by_cases c116 : t423 < 0
        ·rw [if_pos c116] at H
         have c116b0 : decide (t423 < 0) = true := decide_eq_true c116
         clear c116
         exact absurd H laws_FnPagesNumbered.j8_dead
        ·rw [if_neg c116] at H
         have c116b0 : decide (t423 < 0) = false := decide_eq_false c116
         clear c116
         have H' := Aside0.mk H
         clear H
         go_wp2_with (first | (go_at_call 28; (with_reducible refine (laws_xSize.calls kj94 t424 t457 _ A114.out).mono ?_); rintro e w' ⟨rfl, ⟨nd, rfl⟩⟩))
         go_meet
         case rel => exact ⟨_, (decide (t423 > 9)), (by first | rfl | simp | simp [*]), H', ⟨by first | omega | exact Nat.le_refl _⟩, ⟨by (with_reducible repeat (first | apply Xg | apply Xh | apply Xi)); exact HO_45.out⟩, ⟨by (with_reducible repeat (first | apply Xg | apply Xh | apply Xi)); exact HO_51.out⟩, ⟨by repeat (with_reducible first | exact HB.out | apply Xc | apply Xa | apply Xb)⟩⟩
     ·replace c112 := Bool.eq_false_iff.mpr c112
      subst c112
      rw [if_neg (show ¬ (false = true) by decide)] at H
      exact absurd H laws_FnPagesNumbered.j8_dead
    case rest =>
     clear HC110
     try clear p2; try clear p6; try clear c10; try clear c11; try clear c12; try clear c13; try clear c14; try clear c15; try clear c16; try clear c17; try clear c18; try clear c18b0; try clear c18b1; try clear c18b2; try clear c19; try clear c19b0; try clear c19b1; try clear c20; try clear c20b0; try clear c20b1; try clear c20b2; try clear c21; try clear c21b0; try clear c21b1; try clear c22; try clear c22b0; try clear c22b1; try clear c22b2; try clear c23; try clear c23b0; try clear c23b1; try clear c24; try clear c24b0; try clear c24b1; try clear c24b2; try clear c25; try clear c26; try clear c28; try clear c31; try clear c31b0; try clear c33; try clear c35; try clear c36; try clear c36b0; try clear c36b1; try clear c37; try clear c37b0; try clear c37b1; try clear c38; try clear c38b0; try clear c40; try clear c42; try clear c42b0; try clear c43; try clear c43b0; try clear c44; try clear c45; try clear c45b0; try clear c47; try clear c48; try clear c48b0; try clear p64; try clear c81; try clear c81b0; try clear c81b1; try clear c81b2; try clear c82; try clear c82b0; try clear c82b1; try clear c83; try clear c83b0; try clear c83b1; try clear c83b2; try clear c84; try clear c84b0; try clear c84b1; try clear c85; try clear c85b0; try clear c85b1; try clear c86; try clear c86b0; try clear c86b1; try clear c86b2; try clear c87; try clear c87b0; try clear c87b1; try clear c88; try clear c88b0; try clear c88b1; try clear c88b2; try clear c89; try clear c89b0; try clear c89b1; try clear c90; try clear c90b0; try clear c90b1; try clear c90b2; try clear c94; try clear c96; try clear c100; try clear c101; try clear c102; try clear c102b0; try clear c104; try clear c105; try clear c105b0; try clear c108; try clear c112; try clear c113; try clear c113b0; try clear c115; try clear c115b0; try clear c116; try clear c116b0; try clear p2; try clear p6; try clear p64
     obtain ⟨kq, x397_109, rfl, HA, HJ109, HO_45, HO_51, HB⟩ := hcut
     cases kq with
     | zero => exact absurd HA.out (by simp [laws_FnPagesNumbered.j8])
     | succ kj109 =>
      have H := HA.out
      clear HA
      simp only [laws_FnPagesNumbered.j8] at H
      by_cases c117 : x397_109 = true
      ·subst c117
       rw [if_pos rfl] at H
       exact absurd H (by simp)
      ·replace c117 := Bool.eq_false_iff.mpr c117
       subst c117
       rw [if_neg (show ¬ (false = true) by decide)] at H
       have H' := Aside0.mk H
       clear H
       go_wp2
       go_loopg [61, 62] kj109 (fun kq v61 v62 w' => ∃ (x61_7 : Int) (x62_7 : Int), v61 = .int .i64 x61_7 ∧ v62 = .int .i64 x62_7 ∧ Aside0 (laws_FnPagesNumbered.l1 kq t422 t423 t429 t430 t431 t434 t437 t438 t441 t442 t443 x61_7 x62_7 = some true) ∧ Aside0 (kq ≤ kj109) ∧ Aside0 (Kd.R (Kd.int .i64) 3 w' w.heap.size (fun k_ => some k_ ≠ (v444 : Value).ownBlock) (.slice Ao75 t434.length co75) t434) ∧ Aside0 (Kd.R (Kd.int .i64) 3 w' w.heap.size (fun k_ => some k_ ≠ ((.slice Ao75 t434.length co75) : Value).ownBlock) v444 t442) ∧ Aside0 (Below w.heap.size w w'))
       case atStart => exact ⟨(t424), (t455), (by first | rfl | simp | simp [*]), (by first | rfl | simp | simp [*]), H', ⟨Nat.le_refl _⟩, ⟨by (with_reducible repeat (first | apply Xg | apply Xh | apply Xi)); exact HO_45.out⟩, ⟨by (with_reducible repeat (first | apply Xg | apply Xh | apply Xi)); exact HO_51.out⟩, ⟨by repeat (with_reducible first | exact HB.out | apply Xc | apply Xa | apply Xb)⟩⟩
       case round =>
        clear H'
        try clear p2; try clear p6; try clear c10; try clear c11; try clear c12; try clear c13; try clear c14; try clear c15; try clear c16; try clear c17; try clear c18; try clear c18b0; try clear c18b1; try clear c18b2; try clear c19; try clear c19b0; try clear c19b1; try clear c20; try clear c20b0; try clear c20b1; try clear c20b2; try clear c21; try clear c21b0; try clear c21b1; try clear c22; try clear c22b0; try clear c22b1; try clear c22b2; try clear c23; try clear c23b0; try clear c23b1; try clear c24; try clear c24b0; try clear c24b1; try clear c24b2; try clear c25; try clear c26; try clear c28; try clear c31; try clear c31b0; try clear c33; try clear c35; try clear c36; try clear c36b0; try clear c36b1; try clear c37; try clear c37b0; try clear c37b1; try clear c38; try clear c38b0; try clear c40; try clear c42; try clear c42b0; try clear c43; try clear c43b0; try clear c44; try clear c45; try clear c45b0; try clear c47; try clear c48; try clear c48b0; try clear p64; try clear c81; try clear c81b0; try clear c81b1; try clear c81b2; try clear c82; try clear c82b0; try clear c82b1; try clear c83; try clear c83b0; try clear c83b1; try clear c83b2; try clear c84; try clear c84b0; try clear c84b1; try clear c85; try clear c85b0; try clear c85b1; try clear c86; try clear c86b0; try clear c86b1; try clear c86b2; try clear c87; try clear c87b0; try clear c87b1; try clear c88; try clear c88b0; try clear c88b1; try clear c88b2; try clear c89; try clear c89b0; try clear c89b1; try clear c90; try clear c90b0; try clear c90b1; try clear c90b2; try clear c94; try clear c96; try clear c100; try clear c101; try clear c102; try clear c102b0; try clear c104; try clear c105; try clear c105b0; try clear c108; try clear c112; try clear c113; try clear c113b0; try clear c115; try clear c115b0; try clear c116; try clear c116b0; try clear c117; try clear p2; try clear p6; try clear p64
        obtain ⟨x61_7, x62_7, rfl, rfl, HA, HK7, HO_45, HO_51, HB⟩ := hrel
        cases gk with
        | zero => exact absurd HA.out (by simp [laws_FnPagesNumbered.l1])
        | succ k7 =>
         have H := HA.out
         clear HA
         simp only [laws_FnPagesNumbered.l1] at H
         by_cases c118 : x62_7 > t422
         ·rw [if_pos c118] at H
          have c118b0 : decide (t422 < x62_7) = true := decide_eq_true c118
          clear c118
          have H' := Aside0.mk H
          clear H
          go_wp2
          go_roundg k7
          case measure => have := HJ109.out; have := HK7.out; omega
          case rel => exact ⟨(wrap64 (Int.tdiv x61_7 10)), (wrap64 (x62_7 - 1)), (by first | rfl | simp | simp [*]), (by first | rfl | simp | simp [*]), H', ⟨by have := HJ109.out; have := HK7.out; omega⟩, ⟨by (with_reducible repeat (first | apply Xg | apply Xh | apply Xi)); exact HO_45.out⟩, ⟨by (with_reducible repeat (first | apply Xg | apply Xh | apply Xi)); exact HO_51.out⟩, ⟨by repeat (with_reducible first | exact HB.out | apply Xc | apply Xa | apply Xb)⟩⟩
         ·rw [if_neg c118] at H
          have c118b0 : decide (t422 < x62_7) = false := decide_eq_false c118
          clear c118
          by_cases c119 : (Int.tmod x61_7 10) = t423
          ·rw [if_pos c119] at H
           have c119b0 : ((Int.tmod x61_7 10) == t423) = true := beq_iff_eq.mpr c119
           have c119b1 : ((Int.tmod x61_7 10) != t423) = false := bne_eq_false_iff_eq.mpr c119
           clear c119
           have H' := Aside0.mk H
           clear H
           go_wp2
           go_meet
           case rel => exact ⟨_, H', ⟨by have := HJ109.out; have := HK7.out; first | omega | exact Nat.le_refl _⟩, ⟨by (with_reducible repeat (first | apply Xg | apply Xh | apply Xi)); exact HO_45.out⟩, ⟨by (with_reducible repeat (first | apply Xg | apply Xh | apply Xi)); exact HO_51.out⟩, ⟨by repeat (with_reducible first | exact HB.out | apply Xc | apply Xa | apply Xb)⟩⟩
          ·rw [if_neg c119] at H
           have c119b0 : ((Int.tmod x61_7 10) == t423) = false := beq_eq_false_iff_ne.mpr c119
           have c119b1 : ((Int.tmod x61_7 10) != t423) = true := bne_iff_ne.mpr c119
           exact absurd H (by simp)
   ·replace c108 := Bool.eq_false_iff.mpr c108
    subst c108
    rw [if_neg (show ¬ (false = true) by decide)] at H
    have H' := Aside0.mk H
    clear H
    go_wp2
    go_meet
    case rel => exact ⟨_, H', ⟨by first | omega | exact Nat.le_refl _⟩, ⟨by (with_reducible repeat (first | apply Xg | apply Xh | apply Xi)); exact HO_45.out⟩, ⟨by (with_reducible repeat (first | apply Xg | apply Xh | apply Xi)); exact HO_51.out⟩, ⟨by repeat (with_reducible first | exact HB.out | apply Xc | apply Xa | apply Xb)⟩⟩
  case rest =>
   clear HC107
   try clear p2; try clear p6; try clear c10; try clear c11; try clear c12; try clear c13; try clear c14; try clear c15; try clear c16; try clear c17; try clear c18; try clear c18b0; try clear c18b1; try clear c18b2; try clear c19; try clear c19b0; try clear c19b1; try clear c20; try clear c20b0; try clear c20b1; try clear c20b2; try clear c21; try clear c21b0; try clear c21b1; try clear c22; try clear c22b0; try clear c22b1; try clear c22b2; try clear c23; try clear c23b0; try clear c23b1; try clear c24; try clear c24b0; try clear c24b1; try clear c24b2; try clear c25; try clear c26; try clear c28; try clear c31; try clear c31b0; try clear c33; try clear c35; try clear c36; try clear c36b0; try clear c36b1; try clear c37; try clear c37b0; try clear c37b1; try clear c38; try clear c38b0; try clear c40; try clear c42; try clear c42b0; try clear c43; try clear c43b0; try clear c44; try clear c45; try clear c45b0; try clear c47; try clear c48; try clear c48b0; try clear p64; try clear c81; try clear c81b0; try clear c81b1; try clear c81b2; try clear c82; try clear c82b0; try clear c82b1; try clear c83; try clear c83b0; try clear c83b1; try clear c83b2; try clear c84; try clear c84b0; try clear c84b1; try clear c85; try clear c85b0; try clear c85b1; try clear c86; try clear c86b0; try clear c86b1; try clear c86b2; try clear c87; try clear c87b0; try clear c87b1; try clear c88; try clear c88b0; try clear c88b1; try clear c88b2; try clear c89; try clear c89b0; try clear c89b1; try clear c90; try clear c90b0; try clear c90b1; try clear c90b2; try clear c94; try clear c96; try clear c100; try clear c101; try clear c102; try clear c102b0; try clear c104; try clear c105; try clear c105b0; try clear c108; try clear c112; try clear c113; try clear c113b0; try clear c115; try clear c115b0; try clear c116; try clear c116b0; try clear c117; try clear c118; try clear c118b0; try clear c119; try clear c119b0; try clear c119b1; try clear p2; try clear p6; try clear p64
   obtain ⟨kq, HA, HJ106, HO_45, HO_51, HB⟩ := hcut
   rename_i K1 a1
   exact nx w HE HG t429 t430 t431 t434 t437 t438 t441 t442 t443 v444 Ao75 co75 kq wc HA HO_45 HO_51 HB _ _ _ _ _ _ _ _ _ _ _ _ _ _ _ _ _ _ _ _ _ _ _ _ _ _ _ _ _ _ _ _ _ _ _ _ _ _ _ _ _ _ _ _ _ _ _ _ _ _ _ _ _ _ _ _ _ _ _ _ _ _ _ _ _ _ _ _ _ _ _ _ _ _ _ _ _ _ _ _ _ _ _ _ _ _ _ _ _ _ _ _ _ _ _ _ _ _ _ _ _ _ _ _ _ _ _ _ _ _ _ _ _ _ _ _ _ _ _ _ _ _ _ _ _ _ _ _ _ _ _ _ _ _ _ _ _ _ _ _ _ _ _ _ _ _ _ _ _ _ _ _ _ _ _ _ _ _ _ _ _ _ _ _ _ _ _ _ _ _ _ _ _ _ _ _ _ _ _ _ _ _ _ _ _ _ _ _ _ _ _ _ _ _ _ _ _ _ _ _ _ _ _ _ _ _ _ _ _ _ _ _ _ _ _ _ _ _ _ _ _ _ _ _ _ _ _ _ _ _ _ _ _ _ _ _ _ _ _ _ _ _ _ _ _ _ _ _ _ _ _ _ _ _ _ _ _ _ _ _ _ _ _ _ _ _ _ _ _ _ _ _ _ _ _ _ _ _ _ _ _ _ _ _ _ _ _ _ _ _ _ _ _ _ _ _ _ _ _ _ _ _ _ _ _ _ _ _ _ _ _ _ _ _ _ _ _ _ _ _ _ _ _ _ _ _ _ _ _ _ _ _ _ _ _ _ _ _ _ _ _ _ _ _ _ _ _ _ _ _ _ _ _ _ _ _ _ _ _ _ _ _ _ _ _ _ _ _ _ _ _ _ _ _ _ _ _ _ _ _ _ _ _ _ _ _ _ _ _ _ _ _ _ _ _ _ _ _ _ _ _ _ _ _ _ _ _ _ _ _ _ _ _ _ _ _ _ _ _ _ _ _ _ _ _ _ _ _ _ _ _ _ _ _ _ _ _ _ _ _ _ _ _ _ _ _ K1 a1

end Go.Proofs.YtjkfgeigicljpaaGreatDoor.PFnPagesNumbered
