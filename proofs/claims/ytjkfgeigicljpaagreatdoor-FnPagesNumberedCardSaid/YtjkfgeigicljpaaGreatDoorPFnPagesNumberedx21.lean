-- WRITTEN BY A PROGRAM OF THIS SESSION (xprint), out of the translation: not trusted: it is checked as any text
import Derived.Test.YtjkfgeigicljpaaGreatDoorPFnPagesNumberedx13
import Derived.Test.YtjkfgeigicljpaaGreatDoorPFnPagesNumberedx14
import Derived.Test.YtjkfgeigicljpaaGreatDoorPFnPagesNumberedx15
import Derived.Test.YtjkfgeigicljpaaGreatDoorPFnPagesNumberedx16
import Derived.Test.YtjkfgeigicljpaaGreatDoorPFnPagesNumberedx17
import Derived.Test.YtjkfgeigicljpaaGreatDoorPFnPagesNumberedx18
import Derived.Test.YtjkfgeigicljpaaGreatDoorPFnPagesNumberedx19
import Derived.Test.YtjkfgeigicljpaaGreatDoorPFnPagesNumberedx20
namespace Go.Proofs.YtjkfgeigicljpaaGreatDoor.PFnPagesNumbered
open Go.RowKit Go.Proofs.YtjkfgeigicljpaaGreatDoorW.PrintWords Go.Proofs.YtjkfgeigicljpaaGreatDoorW.PrintLast Go.Proofs.YtjkfgeigicljpaaGreatDoorW.PrintMore
attribute [local go_sem] max2_int min2_int max_two min_two max_three min_three max_four min_four
set_option linter.unusedVariables false
set_option linter.unusedSimpArgs false

set_option maxHeartbeats 40000000 in
set_option maxRecDepth 100000 in
theorem laws_FnPagesNumbered.calls (k : Nat) (A0 : Option Addr) (c0 : Nat) (l0 : List Int) (A1 : Option Addr) (c1 : Nat) (l1 : List Int) (w : World) (hr0 : Kd.C (Kd.int .u8) w A0 l0.length l0) (hc0 : l0.length ≤ c0) (hr1 : Kd.C (Kd.int .u8) w A1 l1.length l1) (hc1 : l1.length ≤ c1) (hG : Lib.TabBelow Tryz.prog w.heap.size w "internal/strconv.uint64pow10" .u64 Lib.pow10Tab) (hE : LibVars w) (h : laws_FnPagesNumbered.f k l0 l1 = some true) :
  Calls Tryz.prog 3 #[.slice A0 l0.length c0, .slice A1 l1.length c1] w fun e w' => e = .returned (.bool true) ∧ Below w.heap.size w w' := by
 have nx := (laws_FnPagesNumbered.p9 (laws_FnPagesNumbered.p10 (laws_FnPagesNumbered.p11 (laws_FnPagesNumbered.p27 (laws_FnPagesNumbered.p28 (laws_FnPagesNumbered.p29 (laws_FnPagesNumbered.p30)))))))
 have HE := Aside0.mk hE
 clear hE
 have HG := Aside0.mk hG
 clear hG
 have HR0 := Aside0.mk hr0
 have HC0 := Aside0.mk hc0
 clear hr0 hc0
 have HR1 := Aside0.mk hr1
 have HC1 := Aside0.mk hc1
 clear hr1 hc1
 have HB := Aside0.mk (Below.refl w.heap.size w)
 have H := h
 unfold laws_FnPagesNumbered.f at H
 clear h
 replace H := Xs.mp H
 obtain ⟨t395, A30, H⟩ := H
 (try dsimp only at H)
 have A3 := Aside0.mk A30
 clear A30
 by_cases c4 : t395 = true
 ·subst c4
  rw [if_pos rfl] at H
  clear H
  go_enter Tryz.func3, Tryz.ntmps3
  go_wp2_with (first | ((with_reducible refine gate_callee (f := 4) rfl ?_); refine goesL_ (some 71) rfl rfl Tryz.func4 (by kernel_rfl) rfl #[.slice A0 l0.length c0, .slice A1 l1.length c1] rfl (by (try simp only [Xp, Xq, Xr]); first | done | rfl) ?_; (with_reducible refine (laws_big.calls _ _ l0 _ _ l1 true _ ?side1 ?side2 ?side3 ?side4 A3.out).mono ?_); (case side1 => repeat (first | exact HR0.out | (with_reducible refine Xj ?_ _) | (with_reducible refine Xk ?_ _) | (with_reducible refine Xl ?_))); (case side2 => exact HC0.out); (case side3 => repeat (first | exact HR1.out | (with_reducible refine Xj ?_ _) | (with_reducible refine Xk ?_ _) | (with_reducible refine Xl ?_))); (case side4 => exact HC1.out); rintro e w' ⟨rfl, ⟨nd, rfl⟩⟩; refine ⟨_, rfl, ?_⟩))
  go_ret
  exact ⟨by first | rfl | (simp [*, errW_none, errW_some] <;> rfl), by repeat (with_reducible first | exact HB.out | apply Xc | apply Xa | apply Xb)⟩
 ·replace c4 := Bool.eq_false_iff.mpr c4
  subst c4
  rw [if_neg (show ¬ (false = true) by decide)] at H
  replace H := Xs.mp H
  obtain ⟨⟨t396, t397⟩, A50, H⟩ := H
  (try dsimp only at H)
  have A5 := Aside0.mk A50
  clear A50
  replace H := Xs.mp H
  obtain ⟨⟨t398, t399⟩, A60, H⟩ := H
  (try dsimp only at H)
  have A6 := Aside0.mk A60
  clear A60
  replace H := Xs.mp H
  obtain ⟨⟨t400, t401⟩, A70, H⟩ := H
  (try dsimp only at H)
  have A7 := Aside0.mk A70
  clear A70
  replace H := Xs.mp H
  obtain ⟨⟨t402, t403⟩, A80, H⟩ := H
  (try dsimp only at H)
  have A8 := Aside0.mk A80
  clear A80
  replace H := Xs.mp H
  obtain ⟨⟨t404, t405⟩, A90, H⟩ := H
  (try dsimp only at H)
  have A9 := Aside0.mk A90
  clear A90
  replace H := Xs.mp H
  obtain ⟨⟨t406, t407⟩, A100, H⟩ := H
  (try dsimp only at H)
  have A10 := Aside0.mk A100
  clear A100
  replace H := Xs.mp H
  obtain ⟨⟨t408, t409⟩, A110, H⟩ := H
  (try dsimp only at H)
  have A11 := Aside0.mk A110
  clear A110
  have HC12 := Aside0.mk H
  clear H
  go_enter Tryz.func3, Tryz.ntmps3
  go_upto_region 10 with (first | ((with_reducible refine gate_callee (f := 4) rfl ?_); refine goesL_ (some 71) rfl rfl Tryz.func4 (by kernel_rfl) rfl #[.slice A0 l0.length c0, .slice A1 l1.length c1] rfl (by (try simp only [Xp, Xq, Xr]); first | done | rfl) ?_; (with_reducible refine (laws_big.calls _ _ l0 _ _ l1 false _ ?side1 ?side2 ?side3 ?side4 A3.out).mono ?_); (case side1 => repeat (first | exact HR0.out | (with_reducible refine Xj ?_ _) | (with_reducible refine Xk ?_ _) | (with_reducible refine Xl ?_))); (case side2 => exact HC0.out); (case side3 => repeat (first | exact HR1.out | (with_reducible refine Xj ?_ _) | (with_reducible refine Xk ?_ _) | (with_reducible refine Xl ?_))); (case side4 => exact HC1.out); rintro e w' ⟨rfl, ⟨nd, rfl⟩⟩; refine ⟨_, rfl, ?_⟩) | ((with_reducible refine gate_callee (f := 5) rfl ?_); refine goesL_ (some 74) rfl rfl Tryz.func5 (by kernel_rfl) rfl #[.slice A0 l0.length c0] rfl (by (try simp only [Xp, Xq, Xr]); first | done | rfl) ?_; (with_reducible refine (spec_DrawCountDigit.calls _ _ l0 t396 t397 _ ?side1 ?side2 A5.out).mono ?_); (case side1 => repeat (first | exact HR0.out | (with_reducible refine Xj ?_ _) | (with_reducible refine Xk ?_ _) | (with_reducible refine Xl ?_))); (case side2 => exact HC0.out); rintro e w13 ⟨rfl, hb⟩; refine ⟨_, rfl, ?_⟩; replace HB := Aside0.mk (Xd (by repeat (with_reducible first | exact HB.out | apply Xc | apply Xa | apply Xb)) hb); (try clear hb)) | ((with_reducible refine gate_callee (f := 6) rfl ?_); refine goesL_ (some 80) rfl rfl Tryz.func6 (by kernel_rfl) rfl #[.int .i64 t396, .int .i64 t397] rfl (by (try simp only [Xp, Xq, Xr]); first | done | rfl) ?_; (with_reducible refine (impl_CountDigit.calls k t396 t397 t398 t399 _ (by exact strconv_Itoa.tab HG.out (by repeat (with_reducible first | exact HB.out | apply Xc | apply Xa | apply Xb))) A6.out).mono ?_); rintro e w14 ⟨rfl, hb⟩; refine ⟨_, rfl, ?_⟩; replace HB := Aside0.mk (Xd (by repeat (with_reducible first | exact HB.out | apply Xc | apply Xa | apply Xb)) hb); (try clear hb)) | ((with_reducible refine gate_callee (f := 7) rfl ?_); refine goesL_ (some 86) rfl rfl Tryz.func7 (by kernel_rfl) rfl #[.int .i64 t396, .int .i64 t397] rfl (by (try simp only [Xp, Xq, Xr]); first | done | rfl) ?_; (with_reducible refine (spec_CountDigit.calls k t396 t397 t400 t401 _ A7.out).mono ?_); rintro e w' ⟨rfl, ⟨nd, rfl⟩⟩; refine ⟨_, rfl, ?_⟩) | ((with_reducible refine gate_callee (f := 8) rfl ?_); refine goesL_ (some 92) rfl rfl Tryz.func8 (by kernel_rfl) rfl #[.int .i64 t396, .int .i64 t397] rfl (by (try simp only [Xp, Xq, Xr]); first | done | rfl) ?_; (with_reducible refine (impl_PagesWithDigit.calls k t396 t397 t402 t403 _ (by exact strconv_Itoa.tab HG.out (by repeat (with_reducible first | exact HB.out | apply Xc | apply Xa | apply Xb))) A8.out).mono ?_); rintro e w15 ⟨rfl, hb⟩; refine ⟨_, rfl, ?_⟩; replace HB := Aside0.mk (Xd (by repeat (with_reducible first | exact HB.out | apply Xc | apply Xa | apply Xb)) hb); (try clear hb)) | ((with_reducible refine gate_callee (f := 9) rfl ?_); refine goesL_ (some 98) rfl rfl Tryz.func9 (by kernel_rfl) rfl #[.int .i64 t396, .int .i64 t397] rfl (by (try simp only [Xp, Xq, Xr]); first | done | rfl) ?_; (with_reducible refine (spec_PagesWithDigit.calls k t396 t397 t404 t405 _ A9.out).mono ?_); rintro e w' ⟨rfl, ⟨nd, rfl⟩⟩; refine ⟨_, rfl, ?_⟩) | ((with_reducible refine gate_callee (f := 10) rfl ?_); refine goesL_ (some 103) rfl rfl Tryz.func10 (by kernel_rfl) rfl #[.int .i64 t396] rfl (by (try simp only [Xp, Xq, Xr]); first | done | rfl) ?_; (with_reducible refine (impl_DigitsOfBook.calls k t396 t406 t407 _ (by exact strconv_Itoa.tab HG.out (by repeat (with_reducible first | exact HB.out | apply Xc | apply Xa | apply Xb))) A10.out).mono ?_); rintro e w16 ⟨rfl, hb⟩; refine ⟨_, rfl, ?_⟩; replace HB := Aside0.mk (Xd (by repeat (with_reducible first | exact HB.out | apply Xc | apply Xa | apply Xb)) hb); (try clear hb)) | ((with_reducible refine gate_callee (f := 11) rfl ?_); refine goesL_ (some 108) rfl rfl Tryz.func11 (by kernel_rfl) rfl #[.int .i64 t396] rfl (by (try simp only [Xp, Xq, Xr]); first | done | rfl) ?_; (with_reducible refine (spec_DigitsOfBook.calls k t396 t408 t409 _ A11.out).mono ?_); rintro e w17 ⟨rfl, hb⟩; refine ⟨_, rfl, ?_⟩; replace HB := Aside0.mk (Xd (by repeat (with_reducible first | exact HB.out | apply Xc | apply Xa | apply Xb)) hb); (try clear hb)))
  (try simp only [Act.put, Xm, Xn, Xo])
  go_cut [150] from 69 to 150 (fun v150 wc => ∃ (kq : Nat) (x150_11 : Bool), v150 = .bool x150_11 ∧ Aside0 (laws_FnPagesNumbered.j0 kq l1 t396 t397 t398 t399 t402 t406 t407 x150_11 = some true) ∧ Aside0 (kq ≤ k) ∧ Aside0 (Below w.heap.size w wc))
  case first =>
   try clear A3; try clear A5; try clear A6; try clear A7; try clear A8; try clear A9; try clear A10; try clear A11
   (try simp only [List.append_eq, List.cons_append, List.nil_append])
   have H := HC12.out
   clear HC12
   by_cases c18 : (t399 != t401) = true
   ·rw [if_pos c18] at H
    have c18b0 : (t399 != t401) = true := c18
    (try (have c18b1 : decide (t399 = t401) = false := by simpa using c18))
    (try (have c18b2 : (t399 == t401) = false := by simpa using c18))
    (try (have c18b3 : ¬ (t399 = t401) := by simpa using c18))
    clear c18
    (first | rw [c18b0] | (simp only [i64_w, i32_w]; rw [c18b0]) | skip)
    exact absurd H laws_FnPagesNumbered.j0_dead
   ·rw [if_neg c18] at H
    have c18b0 : t399 = t401 := by simpa using c18
    clear c18
    subst c18b0
    by_cases c19 : t398 = t400
    ·rw [if_pos c19] at H
     subst c19
     by_cases c20 : (t403 != t405) = true
     ·rw [if_pos c20] at H
      have c20b0 : (t403 != t405) = true := c20
      (try (have c20b1 : decide (t403 = t405) = false := by simpa using c20))
      (try (have c20b2 : (t403 == t405) = false := by simpa using c20))
      (try (have c20b3 : ¬ (t403 = t405) := by simpa using c20))
      clear c20
      exact absurd H laws_FnPagesNumbered.j0_dead
     ·rw [if_neg c20] at H
      have c20b0 : t403 = t405 := by simpa using c20
      clear c20
      subst c20b0
      by_cases c21 : t402 = t404
      ·rw [if_pos c21] at H
       subst c21
       by_cases c22 : (t407 != t409) = true
       ·rw [if_pos c22] at H
        have c22b0 : (t407 != t409) = true := c22
        (try (have c22b1 : decide (t407 = t409) = false := by simpa using c22))
        (try (have c22b2 : (t407 == t409) = false := by simpa using c22))
        (try (have c22b3 : ¬ (t407 = t409) := by simpa using c22))
        clear c22
        exact absurd H laws_FnPagesNumbered.j0_dead
       ·rw [if_neg c22] at H
        have c22b0 : t407 = t409 := by simpa using c22
        clear c22
        subst c22b0
        by_cases c23 : t406 = t408
        ·rw [if_pos c23] at H
         subst c23
         by_cases c24 : (t403 != t399) = true
         ·rw [if_pos c24] at H
          have c24b0 : (t403 != t399) = true := c24
          (try (have c24b1 : decide (t403 = t399) = false := by simpa using c24))
          (try (have c24b2 : (t403 == t399) = false := by simpa using c24))
          (try (have c24b3 : ¬ (t403 = t399) := by simpa using c24))
          clear c24
          exact absurd H laws_FnPagesNumbered.j0_dead
         ·rw [if_neg c24] at H
          have c24b0 : t399 = t403 := (show t403 = t399 from by simpa using c24).symm
          clear c24
          subst c24b0
          by_cases c25 : t399 = true
          ·subst c25
           rw [if_pos rfl] at H
           have H' := Aside0.mk H
           clear H
           go_wp2
           go_meet
           case rel => exact ⟨_, (!t407), (by first | rfl | simp | simp [*]), H', ⟨by first | omega | exact Nat.le_refl _⟩, ⟨by repeat (with_reducible first | exact HB.out | apply Xc | apply Xa | apply Xb)⟩⟩
          ·replace c25 := Bool.eq_false_iff.mpr c25
           subst c25
           rw [if_neg (show ¬ (false = true) by decide)] at H
           have H' := Aside0.mk H
           clear H
           go_wp2
           go_meet
           case rel => exact ⟨_, (false), (by first | rfl | simp | simp [*]), H', ⟨by first | omega | exact Nat.le_refl _⟩, ⟨by repeat (with_reducible first | exact HB.out | apply Xc | apply Xa | apply Xb)⟩⟩
        ·rw [if_neg c23] at H
         have c23b0 : (t406 == t408) = false := beq_eq_false_iff_ne.mpr c23
         have c23b1 : (t406 != t408) = true := bne_iff_ne.mpr c23
         exact absurd H laws_FnPagesNumbered.j0_dead
      ·rw [if_neg c21] at H
       have c21b0 : (t402 == t404) = false := beq_eq_false_iff_ne.mpr c21
       have c21b1 : (t402 != t404) = true := bne_iff_ne.mpr c21
       exact absurd H laws_FnPagesNumbered.j0_dead
    ·rw [if_neg c19] at H
     have c19b0 : (t398 == t400) = false := beq_eq_false_iff_ne.mpr c19
     have c19b1 : (t398 != t400) = true := bne_iff_ne.mpr c19
     exact absurd H laws_FnPagesNumbered.j0_dead
  case rest =>
   clear HC12
   try clear p2; try clear c10; try clear c11; try clear c18; try clear c18b0; try clear c18b1; try clear c18b2; try clear c19; try clear c19b0; try clear c19b1; try clear c20; try clear c20b0; try clear c20b1; try clear c20b2; try clear c21; try clear c21b0; try clear c21b1; try clear c22; try clear c22b0; try clear c22b1; try clear c22b2; try clear c23; try clear c23b0; try clear c23b1; try clear c24; try clear c24b0; try clear c24b1; try clear c24b2; try clear c25
   obtain ⟨kq, x150_11, rfl, HA, HJ11, HB⟩ := hcut
   rename_i K1 a1 K0 a0
   exact nx k l0 A1 c1 l1 w HE HG HR1 HC1 t396 t397 t398 t399 t402 t406 t407 kq x150_11 wc HA HB _ _ _ _ _ _ _ _ _ _ _ _ _ _ _ _ _ _ _ _ _ _ _ _ _ _ _ _ _ _ _ _ _ _ _ _ _ _ _ _ _ _ _ _ _ _ _ _ _ _ _ _ _ _ _ _ _ _ _ _ _ _ _ _ _ _ _ _ _ _ _ _ _ _ _ _ _ _ _ _ _ _ _ _ _ _ _ _ _ _ _ _ _ _ _ _ _ _ _ _ _ _ _ _ _ _ _ _ _ _ _ _ _ _ _ _ _ _ _ _ _ _ _ _ _ _ _ _ _ _ _ _ _ _ _ _ _ _ _ _ _ _ _ _ _ _ _ _ _ _ _ _ _ _ _ _ _ _ _ _ _ _ _ _ _ _ _ _ _ _ _ _ _ _ _ _ _ _ _ _ _ _ _ _ _ _ _ _ _ _ _ _ _ _ _ _ _ _ _ _ _ _ _ _ _ _ _ _ _ _ _ _ _ _ _ _ _ _ _ _ _ _ _ _ _ _ _ _ _ _ _ _ _ _ _ _ _ _ _ _ _ _ _ _ _ _ _ _ _ _ _ _ _ _ _ _ _ _ _ _ _ _ _ _ _ _ _ _ _ _ _ _ _ _ _ _ _ _ _ _ _ _ _ _ _ _ _ _ _ _ _ _ _ _ _ _ _ _ _ _ _ _ _ _ _ _ _ _ _ _ _ _ _ _ _ _ _ _ _ _ _ _ _ _ _ _ _ _ _ _ _ _ _ _ _ _ _ _ _ _ _ _ _ _ _ _ _ _ _ _ _ _ _ _ _ _ _ _ _ _ _ _ _ _ _ _ _ _ _ _ _ _ _ _ _ _ _ _ _ _ _ _ _ _ _ _ _ _ _ _ _ _ _ _ _ _ _ _ _ _ _ _ _ _ _ _ _ _ _ _ _ _ _ _ _ _ _ _ _ _ _ _ _ _ _ _ _ _ _ _ _ _ _ _ _ _ _ _ _ _ _ _ _ _ _ _ K1 a1 K0 a0

/-- THE ONE PURE STATEMENT of laws_FnPagesNumbered: yours. -/
def laws_FnPagesNumbered.Pure : Prop := ∀ (l0 : List Int) (l1 : List Int), l0.length ≤ maxLen → l0.length * 1 ≤ 140737488351232 → (∀ x ∈ l0, (Lit.int .u8 x).wf = true) → l1.length ≤ maxLen → l1.length * 1 ≤ 140737488351232 → (∀ x ∈ l1, (Lit.int .u8 x).wf = true) → ∃ k, laws_FnPagesNumbered.f k l0 l1 = some true
theorem laws_FnPagesNumbered.walk (P : laws_FnPagesNumbered.Pure) (a0 : Option Addr) (len0 cap0 : Nat) (z0 : List Int) (a1 : Option Addr) (len1 cap1 : Nat) (z1 : List Int) (w : World) (w0 : (a0 = none ∧ len0 = 0 ∧ cap0 = 0 ∧ z0 = []) ∨ ∃ x, a0 = some x ∧ len0 ≤ cap0 ∧ cap0 ≤ maxLen ∧ z0.length = cap0 ∧ (∀ i, i < z0.length → w.cell? (x.add i) = some (.int .u8 (z0.getD i 0))) ∧ ∀ n ∈ z0, (Lit.int .u8 n).wf = true) (y0 : len0 * 1 ≤ 140737488351232) (w1 : (a1 = none ∧ len1 = 0 ∧ cap1 = 0 ∧ z1 = []) ∨ ∃ x, a1 = some x ∧ len1 ≤ cap1 ∧ cap1 ≤ maxLen ∧ z1.length = cap1 ∧ (∀ i, i < z1.length → w.cell? (x.add i) = some (.int .u8 (z1.getD i 0))) ∧ ∀ n ∈ z1, (Lit.int .u8 n).wf = true) (y1 : len1 * 1 ≤ 140737488351232) (hG : Lib.TabBelow Tryz.prog w.heap.size w "internal/strconv.uint64pow10" .u64 Lib.pow10Tab) (hE : LibVars w) :
  Calls Tryz.prog 3 #[.slice a0 len0 cap0, .slice a1 len1 cap1] w fun e w' => e = .returned (.bool true) ∧ Below w.heap.size w w' := by
 obtain ⟨l0, rfl, hr0, hm0, hw0, hc0⟩ := ReadsInt.ofRowC w0
 obtain ⟨l1, rfl, hr1, hm1, hw1, hc1⟩ := ReadsInt.ofRowC w1
 obtain ⟨k, h⟩ := P l0 l1 hm0 y0 hw0 hm1 y1 hw1
 refine (laws_FnPagesNumbered.calls k _ _ l0 _ _ l1 w (Kd.C_of_reads (d := (0 : Int)) (h1 := fun _ => rfl) hr0) hc0 (Kd.C_of_reads (d := (0 : Int)) (h1 := fun _ => rfl) hr1) hc1 hG hE h).mono ?_
 rintro e w' ⟨rfl, hd⟩
 exact ⟨rfl, hd⟩

end Go.Proofs.YtjkfgeigicljpaaGreatDoor.PFnPagesNumbered
