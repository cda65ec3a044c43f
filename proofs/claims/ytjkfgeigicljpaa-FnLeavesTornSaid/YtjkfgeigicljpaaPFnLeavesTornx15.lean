-- WRITTEN BY A PROGRAM OF THIS SESSION (xprint), out of the translation: not trusted: it is checked as any text
import Derived.Test.YtjkfgeigicljpaaPFnLeavesTornx6
import Derived.Test.YtjkfgeigicljpaaPFnLeavesTornx7
import Derived.Test.YtjkfgeigicljpaaPFnLeavesTornx8
import Derived.Test.YtjkfgeigicljpaaPFnLeavesTornx9
import Derived.Test.YtjkfgeigicljpaaPFnLeavesTornx10
import Derived.Test.YtjkfgeigicljpaaPFnLeavesTornx11
import Derived.Test.YtjkfgeigicljpaaPFnLeavesTornx12
import Derived.Test.YtjkfgeigicljpaaPFnLeavesTornx13
import Derived.Test.YtjkfgeigicljpaaPFnLeavesTornx14
namespace Go.Proofs.Ytjkfgeigicljpaa.PFnLeavesTorn
open Go.RowKit Go.Proofs.YtjkfgeigicljpaaW.PrintWords Go.Proofs.YtjkfgeigicljpaaW.PrintLast Go.Proofs.YtjkfgeigicljpaaW.PrintMore
attribute [local go_sem] max2_int min2_int max_two min_two max_three min_three max_four min_four   -- for this text's walks alone
set_option linter.unusedVariables false
set_option linter.unusedSimpArgs false

set_option maxHeartbeats 40000000 in
set_option maxRecDepth 100000 in
theorem laws_FnLeavesTorn.calls (k : Nat) (A0 : Option Addr) (c0 : Nat) (l0 : List Int) (A1 : Option Addr) (c1 : Nat) (l1 : List Int) (w : World) (hr0 : Kd.C (Kd.int .u8) w A0 l0.length l0) (hc0 : l0.length ≤ c0) (hr1 : Kd.C (Kd.int .u8) w A1 l1.length l1) (hc1 : l1.length ≤ c1) (h : laws_FnLeavesTorn.f k l0 l1 = some true) :
    Calls Try.prog 5 #[.slice A0 l0.length c0, .slice A1 l1.length c1] w fun e w' => e = .returned (.bool true) ∧ Below w.heap.size w w' := by
  have nx := (laws_FnLeavesTorn.p9 (laws_FnLeavesTorn.p10 (laws_FnLeavesTorn.p11 (laws_FnLeavesTorn.p35 (laws_FnLeavesTorn.p36 (laws_FnLeavesTorn.p37 (laws_FnLeavesTorn.p38 (laws_FnLeavesTorn.p39))))))))
  have HR0 := Aside0.mk hr0
  have HC0 := Aside0.mk hc0
  clear hr0 hc0
  have HR1 := Aside0.mk hr1
  have HC1 := Aside0.mk hc1
  clear hr1 hc1
  have HB := Aside0.mk (Below.refl w.heap.size w)
  have H : ((laws_big.f l0 l1).bind fun t306 => (if t306 = true then (some true) else ((spec_DrawTornLeaf.f k l0).bind fun bt307 => ((impl_TornLeaf.f bt307.1 bt307.2).bind fun bt309 => ((spec_TornLeaf.f bt307.1 bt307.2).bind fun bt311 => ((impl_SumOfPages.f bt307.1).bind fun bt313 => ((spec_SumOfPages.f bt307.1).bind fun bt315 => ((impl_LeavesOfBook.f bt307.1).bind fun bt317 => ((spec_LeavesOfBook.f bt307.1).bind fun bt319 => (if (bt309.2 != bt311.2) = true then (laws_FnLeavesTorn.j0 k l1 bt307.1 bt307.2 bt309.1 bt309.2 bt313.1 bt313.2 bt317.1 true) else (if bt309.1 = bt311.1 then (if (bt313.2 != bt315.2) = true then (laws_FnLeavesTorn.j0 k l1 bt307.1 bt307.2 bt309.1 bt309.2 bt313.1 bt313.2 bt317.1 true) else (if bt313.1 = bt315.1 then (if (bt317.2 != bt319.2) = true then (laws_FnLeavesTorn.j0 k l1 bt307.1 bt307.2 bt309.1 bt309.2 bt313.1 bt313.2 bt317.1 true) else (if bt317.1 = bt319.1 then (if (bt317.2 != bt313.2) = true then (laws_FnLeavesTorn.j0 k l1 bt307.1 bt307.2 bt309.1 bt309.2 bt313.1 bt313.2 bt317.1 true) else (if bt309.2 = true then (laws_FnLeavesTorn.j0 k l1 bt307.1 bt307.2 bt309.1 bt309.2 bt313.1 bt313.2 bt317.1 (!bt313.2)) else (laws_FnLeavesTorn.j0 k l1 bt307.1 bt307.2 bt309.1 bt309.2 bt313.1 bt313.2 bt317.1 false))) else (laws_FnLeavesTorn.j0 k l1 bt307.1 bt307.2 bt309.1 bt309.2 bt313.1 bt313.2 bt317.1 true))) else (laws_FnLeavesTorn.j0 k l1 bt307.1 bt307.2 bt309.1 bt309.2 bt313.1 bt313.2 bt317.1 true))) else (laws_FnLeavesTorn.j0 k l1 bt307.1 bt307.2 bt309.1 bt309.2 bt313.1 bt313.2 bt317.1 true)))))))))))) = some true := h
  clear h
  replace H := Option.bind_eq_some_iff.mp H
  obtain ⟨t306, A30, H⟩ := H
  (try dsimp only at H)
  have A3 := Aside0.mk A30
  clear A30
  by_cases c4 : t306 = true
  · subst c4
    rw [if_pos rfl] at H
    clear H
    go_enter Try.func5, Try.ntmps5
    go_wp2_with (first | ((with_reducible refine gate_callee (f := 6) rfl ?_); refine goesL_ (some 104) rfl rfl Try.func6 (by kernel_rfl) rfl #[.slice A0 l0.length c0, .slice A1 l1.length c1] rfl (by (try simp only [List.map_toArray, List.map_cons, List.map_nil]); first | done | rfl | (simp only [List.length_drop, List.length_take]; rfl)) ?_; (with_reducible refine (laws_big.calls _ _ l0 _ _ l1 true _ ?side1 ?side2 ?side3 ?side4 A3.out).mono ?_); (case side1 => repeat (first | exact HR0.out | (with_reducible refine Kd.C_alloc ?_ _) | (with_reducible refine Kd.C_drewN ?_ _) | (with_reducible refine Kd.C_drew ?_))); (case side2 => exact HC0.out); (case side3 => repeat (first | exact HR1.out | (with_reducible refine Kd.C_alloc ?_ _) | (with_reducible refine Kd.C_drewN ?_ _) | (with_reducible refine Kd.C_drew ?_))); (case side4 => exact HC1.out); rintro e w' ⟨rfl, ⟨nd, rfl⟩⟩; refine ⟨_, rfl, ?_⟩))
    go_ret
    exact ⟨by first | rfl | (simp [errW_none, errW_some] <;> rfl) | (simp [*, errW_none, errW_some] <;> rfl), by repeat (first | (with_reducible first | exact HB.out | apply below_alloc | apply pw_below_drewN | apply below_drew1) | exact HB.out)⟩
  · replace c4 := Bool.eq_false_iff.mpr c4
    subst c4
    rw [if_neg (show ¬ (false = true) by decide)] at H
    replace H := Option.bind_eq_some_iff.mp H
    obtain ⟨⟨t307, t308⟩, A50, H⟩ := H
    (try dsimp only at H)
    have A5 := Aside0.mk A50
    clear A50
    replace H := Option.bind_eq_some_iff.mp H
    obtain ⟨⟨t309, t310⟩, A60, H⟩ := H
    (try dsimp only at H)
    have A6 := Aside0.mk A60
    clear A60
    replace H := Option.bind_eq_some_iff.mp H
    obtain ⟨⟨t311, t312⟩, A70, H⟩ := H
    (try dsimp only at H)
    have A7 := Aside0.mk A70
    clear A70
    replace H := Option.bind_eq_some_iff.mp H
    obtain ⟨⟨t313, t314⟩, A80, H⟩ := H
    (try dsimp only at H)
    have A8 := Aside0.mk A80
    clear A80
    replace H := Option.bind_eq_some_iff.mp H
    obtain ⟨⟨t315, t316⟩, A90, H⟩ := H
    (try dsimp only at H)
    have A9 := Aside0.mk A90
    clear A90
    replace H := Option.bind_eq_some_iff.mp H
    obtain ⟨⟨t317, t318⟩, A100, H⟩ := H
    (try dsimp only at H)
    have A10 := Aside0.mk A100
    clear A100
    replace H := Option.bind_eq_some_iff.mp H
    obtain ⟨⟨t319, t320⟩, A110, H⟩ := H
    (try dsimp only at H)
    have A11 := Aside0.mk A110
    clear A110
    have HC12 := Aside0.mk H
    clear H
    go_enter Try.func5, Try.ntmps5
    go_upto_region 10 with (first | ((with_reducible refine gate_callee (f := 6) rfl ?_); refine goesL_ (some 104) rfl rfl Try.func6 (by kernel_rfl) rfl #[.slice A0 l0.length c0, .slice A1 l1.length c1] rfl (by (try simp only [List.map_toArray, List.map_cons, List.map_nil]); first | done | rfl | (simp only [List.length_drop, List.length_take]; rfl)) ?_; (with_reducible refine (laws_big.calls _ _ l0 _ _ l1 false _ ?side1 ?side2 ?side3 ?side4 A3.out).mono ?_); (case side1 => repeat (first | exact HR0.out | (with_reducible refine Kd.C_alloc ?_ _) | (with_reducible refine Kd.C_drewN ?_ _) | (with_reducible refine Kd.C_drew ?_))); (case side2 => exact HC0.out); (case side3 => repeat (first | exact HR1.out | (with_reducible refine Kd.C_alloc ?_ _) | (with_reducible refine Kd.C_drewN ?_ _) | (with_reducible refine Kd.C_drew ?_))); (case side4 => exact HC1.out); rintro e w' ⟨rfl, ⟨nd, rfl⟩⟩; refine ⟨_, rfl, ?_⟩) | ((with_reducible refine gate_callee (f := 56) rfl ?_); refine goesL_ (some 107) rfl rfl Try.func56 (by kernel_rfl) rfl #[.slice A0 l0.length c0] rfl (by (try simp only [List.map_toArray, List.map_cons, List.map_nil]); first | done | rfl | (simp only [List.length_drop, List.length_take]; rfl)) ?_; (with_reducible refine (spec_DrawTornLeaf.calls k _ _ l0 t307 t308 _ ?side1 ?side2 A5.out).mono ?_); (case side1 => repeat (first | exact HR0.out | (with_reducible refine Kd.C_alloc ?_ _) | (with_reducible refine Kd.C_drewN ?_ _) | (with_reducible refine Kd.C_drew ?_))); (case side2 => exact HC0.out); rintro e w13 ⟨rfl, hb⟩; refine ⟨_, rfl, ?_⟩; have n0_ := Aside0.mk (below_step (by repeat (first | (with_reducible first | exact HB.out | apply below_alloc | apply pw_below_drewN | apply below_drew1) | exact HB.out)) hb); clear HB; have HB := n0_; clear n0_; (try clear hb); (try clear hb2); (try clear hk); (try clear hi)) | ((with_reducible refine gate_callee (f := 57) rfl ?_); refine goesL_ (some 113) rfl rfl Try.func57 (by kernel_rfl) rfl #[.int .i64 t307, .int .i64 t308] rfl (by (try simp only [List.map_toArray, List.map_cons, List.map_nil]); first | done | rfl | (simp only [List.length_drop, List.length_take]; rfl)) ?_; (with_reducible refine (impl_TornLeaf.calls t307 t308 t309 t310 _ A6.out).mono ?_); rintro e w' ⟨rfl, ⟨nd, rfl⟩⟩; refine ⟨_, rfl, ?_⟩) | ((with_reducible refine gate_callee (f := 58) rfl ?_); refine goesL_ (some 119) rfl rfl Try.func58 (by kernel_rfl) rfl #[.int .i64 t307, .int .i64 t308] rfl (by (try simp only [List.map_toArray, List.map_cons, List.map_nil]); first | done | rfl | (simp only [List.length_drop, List.length_take]; rfl)) ?_; (with_reducible refine (spec_TornLeaf.calls t307 t308 t311 t312 _ A7.out).mono ?_); rintro e w' ⟨rfl, ⟨nd, rfl⟩⟩; refine ⟨_, rfl, ?_⟩) | ((with_reducible refine gate_callee (f := 59) rfl ?_); refine goesL_ (some 124) rfl rfl Try.func59 (by kernel_rfl) rfl #[.int .i64 t307] rfl (by (try simp only [List.map_toArray, List.map_cons, List.map_nil]); first | done | rfl | (simp only [List.length_drop, List.length_take]; rfl)) ?_; (with_reducible refine (impl_SumOfPages.calls t307 t313 t314 _ A8.out).mono ?_); rintro e w' ⟨rfl, ⟨nd, rfl⟩⟩; refine ⟨_, rfl, ?_⟩) | ((with_reducible refine gate_callee (f := 60) rfl ?_); refine goesL_ (some 129) rfl rfl Try.func60 (by kernel_rfl) rfl #[.int .i64 t307] rfl (by (try simp only [List.map_toArray, List.map_cons, List.map_nil]); first | done | rfl | (simp only [List.length_drop, List.length_take]; rfl)) ?_; (with_reducible refine (spec_SumOfPages.calls t307 t315 t316 _ A9.out).mono ?_); rintro e w' ⟨rfl, ⟨nd, rfl⟩⟩; refine ⟨_, rfl, ?_⟩) | ((with_reducible refine gate_callee (f := 61) rfl ?_); refine goesL_ (some 134) rfl rfl Try.func61 (by kernel_rfl) rfl #[.int .i64 t307] rfl (by (try simp only [List.map_toArray, List.map_cons, List.map_nil]); first | done | rfl | (simp only [List.length_drop, List.length_take]; rfl)) ?_; (with_reducible refine (impl_LeavesOfBook.calls t307 t317 t318 _ A10.out).mono ?_); rintro e w' ⟨rfl, ⟨nd, rfl⟩⟩; refine ⟨_, rfl, ?_⟩) | ((with_reducible refine gate_callee (f := 62) rfl ?_); refine goesL_ (some 139) rfl rfl Try.func62 (by kernel_rfl) rfl #[.int .i64 t307] rfl (by (try simp only [List.map_toArray, List.map_cons, List.map_nil]); first | done | rfl | (simp only [List.length_drop, List.length_take]; rfl)) ?_; (with_reducible refine (spec_LeavesOfBook.calls t307 t319 t320 _ A11.out).mono ?_); rintro e w' ⟨rfl, ⟨nd, rfl⟩⟩; refine ⟨_, rfl, ?_⟩))
    (try simp only [Act.put, List.setIfInBounds_toArray, List.set_cons_zero, List.set_cons_succ])
    go_cut [181] from 102 to 181 (fun v181 wc => ∃ (kq : Nat) (x181_11 : Bool), v181 = .bool x181_11 ∧ Aside0 (laws_FnLeavesTorn.j0 kq l1 t307 t308 t309 t310 t313 t314 t317 x181_11 = some true) ∧ Aside0 (kq ≤ k) ∧ Aside0 (Below w.heap.size w wc))
    case first =>
      try clear A3; try clear A5; try clear A6; try clear A7; try clear A8; try clear A9; try clear A10; try clear A11
      (try simp only [List.append_eq, List.cons_append, List.nil_append])
      have H := HC12.out
      clear HC12
      by_cases c14 : (t310 != t312) = true
      · rw [if_pos c14] at H
        have c14b0 : (t310 != t312) = true := c14
        (try (have c14b1 : decide (t310 = t312) = false := by simpa using c14))
        (try (have c14b2 : (t310 == t312) = false := by simpa using c14))
        (try (have c14b3 : ¬ (t310 = t312) := by simpa using c14))
        clear c14
        (first | rw [c14b0] | (simp only [i64_w, i32_w]; rw [c14b0]) | skip)
        exact absurd H laws_FnLeavesTorn.j0_dead
      · rw [if_neg c14] at H
        have c14b0 : t310 = t312 := by simpa using c14
        clear c14
        subst c14b0
        by_cases c15 : t309 = t311
        · rw [if_pos c15] at H
          subst c15
          by_cases c16 : (t314 != t316) = true
          · rw [if_pos c16] at H
            have c16b0 : (t314 != t316) = true := c16
            (try (have c16b1 : decide (t314 = t316) = false := by simpa using c16))
            (try (have c16b2 : (t314 == t316) = false := by simpa using c16))
            (try (have c16b3 : ¬ (t314 = t316) := by simpa using c16))
            clear c16
            exact absurd H laws_FnLeavesTorn.j0_dead
          · rw [if_neg c16] at H
            have c16b0 : t314 = t316 := by simpa using c16
            clear c16
            subst c16b0
            by_cases c17 : t313 = t315
            · rw [if_pos c17] at H
              subst c17
              by_cases c18 : (t318 != t320) = true
              · rw [if_pos c18] at H
                have c18b0 : (t318 != t320) = true := c18
                (try (have c18b1 : decide (t318 = t320) = false := by simpa using c18))
                (try (have c18b2 : (t318 == t320) = false := by simpa using c18))
                (try (have c18b3 : ¬ (t318 = t320) := by simpa using c18))
                clear c18
                exact absurd H laws_FnLeavesTorn.j0_dead
              · rw [if_neg c18] at H
                have c18b0 : t318 = t320 := by simpa using c18
                clear c18
                subst c18b0
                by_cases c19 : t317 = t319
                · rw [if_pos c19] at H
                  subst c19
                  by_cases c20 : (t318 != t314) = true
                  · rw [if_pos c20] at H
                    have c20b0 : (t318 != t314) = true := c20
                    (try (have c20b1 : decide (t318 = t314) = false := by simpa using c20))
                    (try (have c20b2 : (t318 == t314) = false := by simpa using c20))
                    (try (have c20b3 : ¬ (t318 = t314) := by simpa using c20))
                    clear c20
                    exact absurd H laws_FnLeavesTorn.j0_dead
                  · rw [if_neg c20] at H
                    have c20b0 : t314 = t318 := (show t318 = t314 from by simpa using c20).symm
                    clear c20
                    subst c20b0
                    by_cases c21 : t310 = true
                    · subst c21
                      rw [if_pos rfl] at H
                      have H' := Aside0.mk H
                      clear H
                      go_wp2
                      go_meet
                      case rel => exact ⟨_, (!t314), (by first | rfl | (simp; done) | (simp [*]; done)), H', ⟨by first | omega | exact Nat.le_refl _⟩, ⟨by repeat (first | (with_reducible first | exact HB.out | apply below_alloc | apply pw_below_drewN | apply below_drew1) | exact HB.out)⟩⟩
                    · replace c21 := Bool.eq_false_iff.mpr c21
                      subst c21
                      rw [if_neg (show ¬ (false = true) by decide)] at H
                      have H' := Aside0.mk H
                      clear H
                      go_wp2
                      go_meet
                      case rel => exact ⟨_, (false), (by first | rfl | (simp; done) | (simp [*]; done)), H', ⟨by first | omega | exact Nat.le_refl _⟩, ⟨by repeat (first | (with_reducible first | exact HB.out | apply below_alloc | apply pw_below_drewN | apply below_drew1) | exact HB.out)⟩⟩
                · rw [if_neg c19] at H
                  have c19b0 : (t317 == t319) = false := beq_eq_false_iff_ne.mpr c19
                  have c19b1 : (t317 != t319) = true := bne_iff_ne.mpr c19
                  exact absurd H laws_FnLeavesTorn.j0_dead
            · rw [if_neg c17] at H
              have c17b0 : (t313 == t315) = false := beq_eq_false_iff_ne.mpr c17
              have c17b1 : (t313 != t315) = true := bne_iff_ne.mpr c17
              exact absurd H laws_FnLeavesTorn.j0_dead
        · rw [if_neg c15] at H
          have c15b0 : (t309 == t311) = false := beq_eq_false_iff_ne.mpr c15
          have c15b1 : (t309 != t311) = true := bne_iff_ne.mpr c15
          exact absurd H laws_FnLeavesTorn.j0_dead
    case rest =>
      clear HC12
      try clear p2
      try clear c14
      try clear c14b0
      try clear c14b1
      try clear c14b2
      try clear c15
      try clear c15b0
      try clear c15b1
      try clear c16
      try clear c16b0
      try clear c16b1
      try clear c16b2
      try clear c17
      try clear c17b0
      try clear c17b1
      try clear c18
      try clear c18b0
      try clear c18b1
      try clear c18b2
      try clear c19
      try clear c19b0
      try clear c19b1
      try clear c20
      try clear c20b0
      try clear c20b1
      try clear c20b2
      try clear c21
      obtain ⟨kq, x181_11, rfl, HA, HJ11, HB⟩ := hcut
      rename_i K1 a1 K0 a0
      exact nx k A1 c1 l1 w HR1 HC1 t307 t308 t309 t310 t313 t314 t317 kq x181_11 wc HA HB _ _ _ _ _ _ _ _ _ _ _ _ _ _ _ _ _ _ _ _ _ _ _ _ _ _ _ _ _ _ _ _ _ _ _ _ _ _ _ _ _ _ _ _ _ _ _ _ _ _ _ _ _ _ _ _ _ _ _ _ _ _ _ _ _ _ _ _ _ _ _ _ _ _ _ _ _ _ _ _ _ _ _ _ _ _ _ _ _ _ _ _ _ _ _ _ _ _ _ _ _ _ _ _ _ _ _ _ _ _ _ _ _ _ _ _ _ _ _ _ _ _ _ _ _ _ _ _ _ _ _ _ _ _ _ _ _ _ _ _ _ _ _ _ _ _ _ _ _ _ _ _ _ _ _ _ _ _ _ _ _ _ _ _ _ _ _ _ _ _ _ _ _ _ _ _ _ _ _ _ _ _ _ _ _ _ _ _ _ _ _ _ _ _ _ _ _ _ _ _ _ _ _ _ _ _ _ _ _ _ _ _ _ _ _ _ _ _ _ _ _ _ _ _ _ _ _ _ _ _ _ _ _ _ _ _ _ _ _ _ _ _ _ _ _ _ _ _ _ _ _ _ _ _ _ _ _ _ _ _ _ _ _ _ _ _ _ _ _ _ _ _ _ _ _ _ _ _ _ _ _ _ _ _ _ _ _ _ _ _ _ _ _ _ _ _ _ _ _ _ _ _ _ _ _ _ _ _ _ _ _ _ _ _ _ _ _ _ _ _ _ _ _ _ _ _ _ _ _ _ _ _ _ _ _ _ _ _ _ _ _ _ _ _ _ _ _ _ _ _ _ _ _ _ _ _ _ _ _ _ _ _ _ _ _ _ _ _ _ _ _ _ _ _ _ _ _ _ _ _ _ _ _ _ _ _ _ _ _ _ _ _ _ _ _ _ _ _ _ _ _ _ _ _ _ _ _ _ _ _ _ _ _ _ _ _ _ _ _ _ _ _ _ _ _ _ _ _ _ _ _ _ _ _ _ _ _ _ _ _ _ _ _ _ _ _ _ _ _ _ _ _ _ _ _ _ _ _ _ _ _ _ _ _ _ _ _ _ _ _ _ _ _ _ _ _ _ _ _ _ _ _ _ _ _ _ _ _ _ _ _ _ _ _ _ _ _ _ _ _ _ _ _ _ _ _ _ _ _ _ _ _ _ _ _ _ _ _ _ _ _ _ _ _ _ _ _ _ _ _ _ _ _ _ _ _ _ _ _ _ _ _ _ _ _ _ _ _ _ _ _ _ _ _ _ _ _ _ _ _ _ _ _ _ _ _ _ _ _ _ _ _ _ _ _ _ _ _ _ _ _ _ _ _ _ _ _ _ _ _ _ _ _ _ _ _ _ _ _ _ _ _ _ _ _ _ _ _ _ _ _ _ _ _ _ _ _ _ _ _ _ _ _ _ _ _ _ _ _ _ _ _ _ _ _ _ _ _ _ _ _ _ _ _ _ _ _ _ _ _ _ _ _ _ _ _ _ _ _ _ _ _ _ _ _ _ _ _ _ _ _ _ _ _ _ _ _ _ _ _ _ _ _ _ _ _ _ _ _ _ _ _ _ _ _ _ _ _ _ _ _ _ _ _ _ _ _ _ _ _ _ _ _ _ _ _ _ _ _ _ _ _ _ _ _ _ _ K1 a1 K0 a0

/-- THE ONE PURE STATEMENT of laws_FnLeavesTorn: yours. -/
def laws_FnLeavesTorn.Pure : Prop := ∀ (l0 : List Int) (l1 : List Int), l0.length ≤ maxLen → l0.length * 1 ≤ 140737488351232 → (∀ x ∈ l0, (Lit.int .u8 x).wf = true) → l1.length ≤ maxLen → l1.length * 1 ≤ 140737488351232 → (∀ x ∈ l1, (Lit.int .u8 x).wf = true) → ∃ k, laws_FnLeavesTorn.f k l0 l1 = some true
theorem laws_FnLeavesTorn.walk (P : laws_FnLeavesTorn.Pure) (a0 : Option Addr) (len0 cap0 : Nat) (z0 : List Int) (a1 : Option Addr) (len1 cap1 : Nat) (z1 : List Int) (w : World) (w0 : (a0 = none ∧ len0 = 0 ∧ cap0 = 0 ∧ z0 = []) ∨ ∃ x, a0 = some x ∧ len0 ≤ cap0 ∧ cap0 ≤ maxLen ∧ z0.length = cap0 ∧ (∀ i, i < z0.length → w.cell? (x.add i) = some (.int .u8 (z0.getD i 0))) ∧ ∀ n ∈ z0, (Lit.int .u8 n).wf = true) (y0 : len0 * 1 ≤ 140737488351232) (w1 : (a1 = none ∧ len1 = 0 ∧ cap1 = 0 ∧ z1 = []) ∨ ∃ x, a1 = some x ∧ len1 ≤ cap1 ∧ cap1 ≤ maxLen ∧ z1.length = cap1 ∧ (∀ i, i < z1.length → w.cell? (x.add i) = some (.int .u8 (z1.getD i 0))) ∧ ∀ n ∈ z1, (Lit.int .u8 n).wf = true) (y1 : len1 * 1 ≤ 140737488351232) :
    Calls Try.prog 5 #[.slice a0 len0 cap0, .slice a1 len1 cap1] w fun e w' => e = .returned (.bool true) ∧ Below w.heap.size w w' := by
  obtain ⟨l0, rfl, hr0, hm0, hw0, hc0⟩ := ReadsInt.ofRowC w0
  obtain ⟨l1, rfl, hr1, hm1, hw1, hc1⟩ := ReadsInt.ofRowC w1
  obtain ⟨k, h⟩ := P l0 l1 hm0 y0 hw0 hm1 y1 hw1
  refine (laws_FnLeavesTorn.calls k _ _ l0 _ _ l1 w (Kd.C_of_reads (d := (0 : Int)) (h1 := fun _ => rfl) hr0) hc0 (Kd.C_of_reads (d := (0 : Int)) (h1 := fun _ => rfl) hr1) hc1 h).mono ?_
  rintro e w' ⟨rfl, hd⟩
  exact ⟨rfl, hd⟩

end Go.Proofs.Ytjkfgeigicljpaa.PFnLeavesTorn
