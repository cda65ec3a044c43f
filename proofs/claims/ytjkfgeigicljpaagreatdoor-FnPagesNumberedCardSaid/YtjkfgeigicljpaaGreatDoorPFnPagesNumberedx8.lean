-- WRITTEN BY A PROGRAM OF THIS SESSION (xprint), out of the translation: not trusted: it is checked as any text
import Derived.Test.YtjkfgeigicljpaaGreatDoorPFnPagesNumberedx0
import Derived.Test.YtjkfgeigicljpaaGreatDoorPFnPagesNumberedx3
namespace Go.Proofs.YtjkfgeigicljpaaGreatDoor.PFnPagesNumbered
open Go.RowKit Go.Proofs.YtjkfgeigicljpaaGreatDoorW.PrintWords Go.Proofs.YtjkfgeigicljpaaGreatDoorW.PrintLast Go.Proofs.YtjkfgeigicljpaaGreatDoorW.PrintMore
attribute [local go_sem] max2_int min2_int max_two min_two max_three min_three max_four min_four
set_option linter.unusedVariables false
set_option linter.unusedSimpArgs false

/-! ### spec_bpText: function 52 -/
mutual
def spec_bpText.l0 : Nat → List Int → ByteArray → Int → Option (ByteArray)
 | 0, _, _, _ => none
 | k + 1, x0, x3, x4 => if x4 < (x0.length : Int) then (spec_bpText.l1 k x0 x3 x4 x4) else (some x3)
def spec_bpText.j2 : Nat → List Int → ByteArray → Int → Int → Option (ByteArray)
 | 0, _, _, _, _ => none
 | k + 1, x0, x3, x4, x5 => if x4 > 0 then (if x3.size + 1 ≤ 9223372036854775807 then (spec_bpText.j3 k x0 (x3 ++ (⟨#[44]⟩ : ByteArray)) x4 x5) else (none)) else (spec_bpText.j3 k x0 x3 x4 x5)
def spec_bpText.j3 : Nat → List Int → ByteArray → Int → Int → Option (ByteArray)
 | 0, _, _, _, _ => none
 | k + 1, x0, x3, x4, x5 => if (wrap64 (x5 - x4)) = 0 then (if 0 ≤ x4 then (if x4 < (x0.length : Int) then ((spec_l1Num.f k (rd x0 x4)).bind fun t307 => (if x3.size + t307.size ≤ 9223372036854775807 then (spec_bpText.l0 k x0 (x3 ++ t307) (wrap64 (x5 + 1))) else (none))) else (none)) else (none)) else (if (wrap64 (x5 - x4)) = 1 then (if 0 ≤ x4 then (if x4 < (x0.length : Int) then ((spec_l1Num.f k (rd x0 x4)).bind fun t309 => (if t309.size + 1 ≤ 9223372036854775807 then (if 0 ≤ x5 then (if x5 < (x0.length : Int) then ((spec_l1Num.f k (rd x0 x5)).bind fun t311 => (if (t309 ++ (⟨#[44]⟩ : ByteArray)).size + t311.size ≤ 9223372036854775807 then (if x3.size + ((t309 ++ (⟨#[44]⟩ : ByteArray)) ++ t311).size ≤ 9223372036854775807 then (spec_bpText.l0 k x0 (x3 ++ ((t309 ++ (⟨#[44]⟩ : ByteArray)) ++ t311)) (wrap64 (x5 + 1))) else (none)) else (none))) else (none)) else (none)) else (none))) else (none)) else (none)) else (if 0 ≤ x4 then (if x4 < (x0.length : Int) then ((spec_l1Num.f k (rd x0 x4)).bind fun t313 => (if t313.size + 1 ≤ 9223372036854775807 then (if 0 ≤ x5 then (if x5 < (x0.length : Int) then ((spec_l1Num.f k (rd x0 x5)).bind fun t315 => (if (t313 ++ (⟨#[45]⟩ : ByteArray)).size + t315.size ≤ 9223372036854775807 then (if x3.size + ((t313 ++ (⟨#[45]⟩ : ByteArray)) ++ t315).size ≤ 9223372036854775807 then (spec_bpText.l0 k x0 (x3 ++ ((t313 ++ (⟨#[45]⟩ : ByteArray)) ++ t315)) (wrap64 (x5 + 1))) else (none)) else (none))) else (none)) else (none)) else (none))) else (none)) else (none)))
def spec_bpText.l1 : Nat → List Int → ByteArray → Int → Int → Option (ByteArray)
 | 0, _, _, _, _ => none
 | k + 1, x0, x3, x4, x5 => if (wrap64 (x5 + 1)) < (x0.length : Int) then (if 0 ≤ (wrap64 (x5 + 1)) then (if 0 ≤ x5 then (if x5 < (x0.length : Int) then (if (rd x0 (wrap64 (x5 + 1))) = (wrap64 ((rd x0 x5) + 1)) then (spec_bpText.l1 k x0 x3 x4 (wrap64 (x5 + 1))) else (spec_bpText.j2 k x0 x3 x4 x5)) else (none)) else (none)) else (none)) else (spec_bpText.j2 k x0 x3 x4 x5)
end
def spec_bpText.f (k : Nat) (l0 : List Int) : Option (ByteArray) := spec_bpText.l0 k l0 (⟨#[]⟩ : ByteArray) 0
def spec_bpText.T5 : Bool × List (List Nat × List Nat) := (true, [([], []), ([0], [0]), ([], []), ([2], [2]), ([1, 3], [1, 3]), ([4], [4]), ([5], [5]), ([5], [5]), ([7, 5], [5, 7]), ([6, 8, 5], [5, 6, 8]), ([9, 5], [5, 9]), ([5], [5]), ([5], [5]), ([11, 12, 5], [5, 11, 12]), ([13, 5], [5, 13]), ([14, 5], [5, 14]), ([10, 15, 5], [5, 10, 15]), ([5, 16], [5, 16])])
def spec_bpText.B5 : List Nat := [0, 1, 0, 4, 15, 31, 63, 63, 191, 511, 1023, 63, 63, 6207, 14399, 30783, 65535, 131071]
theorem spec_bpText.tab5 : rtab .any (opsOf Tryz.f52 5) = spec_bpText.T5 := by kernel_rfl
theorem spec_bpText.bits5 : waitsOk spec_bpText.T5.2 spec_bpText.B5 = true := by kernel_rfl
def spec_bpText.T10 : Bool × List (List Nat × List Nat) := (true, [([], []), ([], []), ([], []), ([1, 2], [1, 2]), ([3], [3]), ([4], [4]), ([5], [5]), ([], []), ([], []), ([7, 8], [7, 8]), ([9], [9]), ([10, 5], [10]), ([6, 11], [6, 11]), ([0, 12], [0, 12]), ([13, 11, 0, 1, 2, 3, 4, 5, 6, 7, 8, 9, 10, 11, 12, 13], [0, 13])])
def spec_bpText.B10 : List Nat := [0, 0, 0, 6, 14, 30, 62, 0, 0, 384, 896, 1982, 4094, 8191, 16383]
theorem spec_bpText.tab10 : rtab .any (opsOf Tryz.f52 10) = spec_bpText.T10 := by kernel_rfl
theorem spec_bpText.bits10 : waitsOk spec_bpText.T10.2 spec_bpText.B10 = true := by kernel_rfl
def spec_bpText.T14 : Bool × List (List Nat × List Nat) := (true, [([], []), ([], []), ([], []), ([1, 2], [1, 2]), ([3], [3]), ([4], [4]), ([5], [5]), ([], []), ([], []), ([7, 8], [7, 8]), ([9], [9]), ([10, 5], [10]), ([6, 11], [6, 11]), ([0, 12], [0, 12]), ([13, 11, 0, 1, 2, 3, 4, 5, 6, 7, 8, 9, 10, 11, 12, 13], [0, 13])])
def spec_bpText.B14 : List Nat := [0, 0, 0, 6, 14, 30, 62, 0, 0, 384, 896, 1982, 4094, 8191, 16383]
theorem spec_bpText.tab14 : rtab .any (opsOf Tryz.f52 14) = spec_bpText.T14 := by kernel_rfl
theorem spec_bpText.bits14 : waitsOk spec_bpText.T14.2 spec_bpText.B14 = true := by kernel_rfl
set_option maxHeartbeats 8000000 in
set_option maxRecDepth 100000 in
theorem spec_bpText.calls (k : Nat) (A0 : Option Addr) (c0 : Nat) (l0 : List Int) (r : ByteArray) (w : World) (hr0 : Kd.C (Kd.int .i64) w A0 l0.length l0) (hc0 : l0.length ≤ c0) (h : spec_bpText.f k l0 = some r) :
  Calls Tryz.prog 52 #[.slice A0 l0.length c0] w fun e w' => e = .returned (.string r) ∧ Below w.heap.size w w' := by
 have HR0 := Aside0.mk hr0
 have HC0 := Aside0.mk hc0
 clear hr0 hc0
 have HB := Aside0.mk (Below.refl w.heap.size w)
 have H := h
 unfold spec_bpText.f at H
 clear h
 have H' := Aside0.mk H
 clear H
 go_enter Tryz.func52, Tryz.ntmps52
 go_wp2
 go_loopg [3, 4] k (fun kq v3 v4 w' => ∃ (x3_1 : ByteArray) (x4_1 : Int), v3 = .string x3_1 ∧ v4 = .int .i64 x4_1 ∧ Aside0 (spec_bpText.l0 kq l0 x3_1 x4_1 = some r) ∧ Aside0 (kq ≤ k) ∧ Aside0 (Below w.heap.size w w'))
 case atStart => exact ⟨((⟨#[]⟩ : ByteArray)), (0), (by first | rfl | simp | simp [*]), (by first | rfl | simp | simp [*]), H', ⟨Nat.le_refl _⟩, ⟨by repeat (with_reducible first | exact HB.out | apply Xc | apply Xa | apply Xb)⟩⟩
 case round =>
  clear H'
  obtain ⟨x3_1, x4_1, rfl, rfl, HA, HK1, HB⟩ := hrel
  cases gk with
  | zero => exact absurd HA.out (by simp [spec_bpText.l0])
  | succ k1 =>
   have H := HA.out
   clear HA
   simp only [spec_bpText.l0] at H
   by_cases c2 : x4_1 < (l0.length : Int)
   ·rw [if_pos c2] at H
    have c2b0 : decide (x4_1 < (l0.length : Int)) = true := decide_eq_true c2
    clear c2
    have HC3 := Aside0.mk H
    clear H
    go_upto_block 2 with (fail)
    go_cut [5] (fun v5 wc => ∃ (kq : Nat) (x5_2 : Int), v5 = .int .i64 x5_2 ∧ Aside0 (spec_bpText.j2 kq l0 x3_1 x4_1 x5_2 = some r) ∧ Aside0 (kq ≤ k1) ∧ Aside0 (Below w.heap.size w wc))
    case first =>
     have H := HC3.out
     clear HC3
     have H' := Aside0.mk H
     clear H
     go_wp2
     go_loopg [5] k1 (fun kq v5 w' => ∃ (x5_2 : Int), v5 = .int .i64 x5_2 ∧ Aside0 (spec_bpText.l1 kq l0 x3_1 x4_1 x5_2 = some r) ∧ Aside0 (kq ≤ k1) ∧ Aside0 (Below w.heap.size w w'))
     case atStart => exact ⟨(x4_1), (by first | rfl | simp | simp [*]), H', ⟨Nat.le_refl _⟩, ⟨by repeat (with_reducible first | exact HB.out | apply Xc | apply Xa | apply Xb)⟩⟩
     case round =>
      clear H'
      try clear c2; try clear c2b0; try clear p2
      obtain ⟨x5_2, rfl, HA, HK2, HB⟩ := hrel
      cases gk with
      | zero => exact absurd HA.out (by simp [spec_bpText.l1])
      | succ k2 =>
       have H := HA.out
       clear HA
       simp only [spec_bpText.l1] at H
       by_cases c4 : (wrap64 (x5_2 + 1)) < (l0.length : Int)
       ·rw [if_pos c4] at H
        have c4b0 : decide ((wrap64 (x5_2 + 1)) < (l0.length : Int)) = true := decide_eq_true c4
        clear c4
        (first | rw [c4b0] | (simp only [i64_w, i32_w]; rw [c4b0]) | skip)
        obtain ⟨ji5, hji5⟩ : ∃ j_ : Int, (wrap64 (x5_2 + 1)) = j_ := ⟨_, rfl⟩
        replace H : (if 0 ≤ (ji5) then (if 0 ≤ x5_2 then (if x5_2 < (l0.length : Int) then (if (rd l0 (ji5)) = (wrap64 ((rd l0 x5_2) + 1)) then (spec_bpText.l1 k2 l0 x3_1 x4_1 ji5) else (spec_bpText.j2 k2 l0 x3_1 x4_1 x5_2)) else (none)) else (none)) else (none)) = some r := by first | (rw [hji5] at H; exact H) | (simp only [hji5] at H ⊢; exact H)
        (try rw [hji5] at c4b0)
        have hji5w : (IntKind.i64.wrap (x5_2 + 1)) = ji5 := (i64_w _).trans hji5
        by_cases c6 : 0 ≤ (ji5)
        ·rw [if_pos c6] at H
         have c6b0 : decide (0 ≤ (ji5)) = true := decide_eq_true c6
         clear c6
         by_cases c7 : 0 ≤ x5_2
         ·rw [if_pos c7] at H
          have c7b0 : decide (0 ≤ x5_2) = true := decide_eq_true c7
          clear c7
          by_cases c8 : x5_2 < (l0.length : Int)
          ·rw [if_pos c8] at H
           have c8b0 : decide (x5_2 < (l0.length : Int)) = true := decide_eq_true c8
           clear c8
           by_cases c9 : (rd l0 (ji5)) = (wrap64 ((rd l0 x5_2) + 1))
           ·rw [if_pos c9] at H
            have c9b0 : ((rd l0 (ji5)) == (wrap64 ((rd l0 x5_2) + 1))) = true := beq_iff_eq.mpr c9
            have c9b1 : ((rd l0 (ji5)) != (wrap64 ((rd l0 x5_2) + 1))) = false := bne_eq_false_iff_eq.mpr c9
            clear c9
            have H' := Aside0.mk H
            clear H
            try go_wp2
            have n0_ := Aside0.mk (Xb HB.out)
            clear HB
            have HB := n0_
            clear n0_
            have p304 : 0 ≤ ((ji5) : Int) := Xz (by first | (with_reducible assumption) | assumption)
            have q304 : (ji5) < (l0.length : Int) := Xz (by first | (with_reducible assumption) | assumption)
            obtain ⟨ad304, e304, hx304_0⟩ := Kd.at_int HR0.out (ji5) p304 q304
            have hw304_0 := hx304_0
            cases e304
            (try (replace hx304_0 := (HB.out.cell (Xt w _ hx304_0)).trans hx304_0))
            replace p304 := eq_true p304
            replace q304 := eq_true q304
            have p305 : 0 ≤ (x5_2 : Int) := Xz (by first | (with_reducible assumption) | assumption)
            have q305 : x5_2 < (l0.length : Int) := Xz (by first | (with_reducible assumption) | assumption)
            obtain ⟨ad305, e305, hx305_0⟩ := Kd.at_int HR0.out x5_2 p305 q305
            have hw305_0 := hx305_0
            obtain rfl : ad304 = ad305 := (by injection e305)
            (try (replace hx305_0 := (HB.out.cell (Xt w _ hx305_0)).trans hx305_0))
            replace p305 := eq_true p305
            replace q305 := eq_true q305
            refine start_ (n := 18) (S := fun w' => w'.cell? (ad304.add ((ji5)).toNat) = some (.int .i64 (rd l0 (ji5))) ∧ w'.cell? (ad304.add (x5_2).toNat) = some (.int .i64 (rd l0 x5_2))) (ds := []) #[false, false, false, false, false, false, false, false, false, false, false, false, false, false, false, false, false, false] (by kernel_rfl) rfl rfl ⟨((HB.out.cell (Xt w _ hw304_0)).trans hw304_0), ((HB.out.cell (Xt w _ hw305_0)).trans hw305_0)⟩ (fun hHeld => ?_); refine with_tabW spec_bpText.tab5 spec_bpText.bits5 (fun HT_ HW_ => ?_)
            generalize wr.drew = w10 at HB hx304_0 hx305_0 hHeld ⊢
            refine pure_ (i := 0) (N := some 11) (v := ?_) (a' := ?_) #[true, false, false, false, false, false, false, false, false, false, false, false, false, false, false, false, false, false] rfl rfl (any_of HT_.out (by kernel_rfl)) (fun _ _ _ h => h) (Or.inl ⟨by rfl, ?_⟩) ?_ ?_
            rotate_left
            ·intro w'
             go_simp
             with_reducible rfl
            rotate_left
            ·simp only [Act.put, Xm, Xn, Xo, i64_w, i32_w]
             rfl
            refine pure_ (i := 1) (N := some 12) (v := ?_) (a' := ?_) #[true, true, false, false, false, false, false, false, false, false, false, false, false, false, false, false, false, false] rfl rfl (any_of HT_.out (by kernel_rfl)) (fun _ _ _ h => h) (Or.inl ⟨by rfl, ?_⟩) ?_ ?_
            rotate_left
            ·intro w'
             go_simp
             with_reducible rfl
            rotate_left
            ·simp only [Act.put, Xm, Xn, Xo, i64_w, i32_w]
             rfl
            refine pure_ (i := 2) (N := some 13) (v := ?_) (a' := ?_) #[true, true, true, false, false, false, false, false, false, false, false, false, false, false, false, false, false, false] rfl rfl (any_of HT_.out (by kernel_rfl)) (fun _ _ _ h => h) (Or.inl ⟨by rfl, ?_⟩) ?_ ?_
            rotate_left
            ·intro w'
             go_simp
             with_reducible rfl
            rotate_left
            ·simp only [Act.put, Xm, Xn, Xo, i64_w, i32_w]
             rfl
            refine pure_ (i := 3) (N := some 14) (v := ?_) (a' := ?_) #[true, true, true, true, false, false, false, false, false, false, false, false, false, false, false, false, false, false] rfl rfl (any_of HT_.out (by kernel_rfl)) (fun _ _ _ h => h) (Or.inl ⟨by rfl, ?_⟩) ?_ ?_
            rotate_left
            ·intro w'
             go_simp
             with_reducible rfl
            rotate_left
            ·simp only [Act.put, Xm, Xn, Xo, i64_w, i32_w]
             rfl
            refine pure_ (i := 4) (N := some 15) (v := ?_) (a' := ?_) #[true, true, true, true, true, false, false, false, false, false, false, false, false, false, false, false, false, false] rfl rfl (any_of HT_.out (by kernel_rfl)) (fun _ _ _ h => h) (Or.inl ⟨by rfl, ?_⟩) ?_ ?_
            rotate_left
            ·intro w'
             go_simp
             with_reducible rfl
            rotate_left
            ·simp only [Act.put, Xm, Xn, Xo, i64_w, i32_w]
             rfl
            refine pure_ (i := 5) (N := some 16) (v := ?_) (a' := ?_) #[true, true, true, true, true, true, false, false, false, false, false, false, false, false, false, false, false, false] rfl rfl (any_of HT_.out (by kernel_rfl)) (fun _ _ _ h => h) (Or.inl ⟨by rfl, ?_⟩) ?_ ?_
            rotate_left
            ·intro w'
             go_simp
             with_reducible rfl
            rotate_left
            ·simp only [Act.put, Xm, Xn, Xo, i64_w, i32_w]
             rfl
            refine pure_ (i := 6) (N := some 17) (v := ?_) (a' := ?_) #[true, true, true, true, true, true, true, false, false, false, false, false, false, false, false, false, false, false] rfl rfl (any_of HT_.out (by kernel_rfl)) (fun _ _ _ h => h) (Or.inl ⟨by rfl, ?_⟩) ?_ ?_
            rotate_left
            ·intro w'
             go_simp
             with_reducible rfl
            rotate_left
            ·simp only [Act.put, Xm, Xn, Xo, i64_w, i32_w]
             rfl
            refine pure_ (i := 7) (N := some 18) (v := ?_) (a' := ?_) #[true, true, true, true, true, true, true, true, false, false, false, false, false, false, false, false, false, false] rfl rfl (any_of HT_.out (by kernel_rfl)) (fun _ _ _ h => h) (Or.inl ⟨by rfl, ?_⟩) ?_ ?_
            rotate_left
            ·intro w'
             go_simp
             with_reducible rfl
            rotate_left
            ·simp only [Act.put, Xm, Xn, Xo, i64_w, i32_w]
             rfl
            refine pure_ (i := 8) (N := some 19) (v := ?_) (a' := ?_) #[true, true, true, true, true, true, true, true, true, false, false, false, false, false, false, false, false, false] rfl rfl (any_of HT_.out (by kernel_rfl)) (fun _ _ _ h => h) (Or.inl ⟨by rfl, ?_⟩) ?_ ?_
            rotate_left
            ·intro w'
             go_simp
             with_reducible rfl
            rotate_left
            ·simp only [Act.put, Xm, Xn, Xo, i64_w, i32_w]
             rfl
            refine pure_ (i := 9) (N := some 20) (v := ?_) (a' := ?_) #[true, true, true, true, true, true, true, true, true, true, false, false, false, false, false, false, false, false] rfl rfl (any_of HT_.out (by kernel_rfl)) (fun _ _ _ h => h) (Or.inl ⟨by rfl, ?_⟩) ?_ ?_
            rotate_left
            ·intro w'
             go_simp
             with_reducible rfl
            rotate_left
            ·simp only [Act.put, Xm, Xn, Xo, i64_w, i32_w]
             rfl
            refine pure_ (i := 11) (N := some 22) (v := ?_) (a' := ?_) #[true, true, true, true, true, true, true, true, true, true, false, true, false, false, false, false, false, false] rfl rfl (any_of HT_.out (by kernel_rfl)) (fun _ _ _ h => h) (Or.inl ⟨by rfl, ?_⟩) ?_ ?_
            rotate_left
            ·intro w'
             go_simp
             with_reducible rfl
            rotate_left
            ·simp only [Act.put, Xm, Xn, Xo, i64_w, i32_w]
             rfl
            refine pure_ (i := 12) (N := some 23) (v := ?_) (a' := ?_) #[true, true, true, true, true, true, true, true, true, true, false, true, true, false, false, false, false, false] rfl rfl (any_of HT_.out (by kernel_rfl)) (fun _ _ _ h => h) (Or.inl ⟨by rfl, ?_⟩) ?_ ?_
            rotate_left
            ·intro w'
             go_simp
             with_reducible rfl
            rotate_left
            ·simp only [Act.put, Xm, Xn, Xo, i64_w, i32_w]
             rfl
            refine pure_ (i := 13) (N := some 24) (v := ?_) (a' := ?_) #[true, true, true, true, true, true, true, true, true, true, false, true, true, true, false, false, false, false] rfl rfl (any_of HT_.out (by kernel_rfl)) (fun _ _ _ h => h) (Or.inl ⟨by rfl, ?_⟩) ?_ ?_
            rotate_left
            ·intro w'
             go_simp
             with_reducible rfl
            rotate_left
            ·simp only [Act.put, Xm, Xn, Xo, i64_w, i32_w]
             rfl
            refine take_ (i := 10) (N := some 21) (v := ?_) (a' := ?_) #[true, true, true, true, true, true, true, true, true, true, true, true, true, true, false, false, false, false] rfl rfl (take_ofW HT_.out HW_.out (by kernel_rfl)) (fun _ _ _ h => h) (Or.inl ⟨by rfl, ?_⟩) hHeld ?_ ?_
            rotate_left
            ·rintro w' ⟨s0, s1⟩
             go_simp
             with_reducible rfl
            rotate_left
            ·simp only [Act.put, Xm, Xn, Xo, i64_w, i32_w]
             rfl
            refine take_ (i := 14) (N := some 25) (v := ?_) (a' := ?_) #[true, true, true, true, true, true, true, true, true, true, true, true, true, true, true, false, false, false] rfl rfl (take_ofW HT_.out HW_.out (by kernel_rfl)) (fun _ _ _ h => h) (Or.inl ⟨by rfl, ?_⟩) hHeld ?_ ?_
            rotate_left
            ·rintro w' ⟨s0, s1⟩
             go_simp
             with_reducible rfl
            rotate_left
            ·simp only [Act.put, Xm, Xn, Xo, i64_w, i32_w]
             rfl
            refine pure_ (i := 15) (N := some 26) (v := ?_) (a' := ?_) #[true, true, true, true, true, true, true, true, true, true, true, true, true, true, true, true, false, false] rfl rfl (any_of HT_.out (by kernel_rfl)) (fun _ _ _ h => h) (Or.inl ⟨by rfl, ?_⟩) ?_ ?_
            rotate_left
            ·intro w'
             go_simp
             with_reducible rfl
            rotate_left
            ·simp only [Act.put, Xm, Xn, Xo, i64_w, i32_w]
             rfl
            refine pure_ (i := 16) (N := some 27) (v := ?_) (a' := ?_) #[true, true, true, true, true, true, true, true, true, true, true, true, true, true, true, true, true, false] rfl rfl (any_of HT_.out (by kernel_rfl)) (fun _ _ _ h => h) (Or.inl ⟨by rfl, ?_⟩) ?_ ?_
            rotate_left
            ·intro w'
             go_simp
             with_reducible rfl
            rotate_left
            ·simp only [Act.put, Xm, Xn, Xo, i64_w, i32_w]
             rfl
            refine pure_ (i := 17) (N := some 28) (v := ?_) (a' := ?_) #[true, true, true, true, true, true, true, true, true, true, true, true, true, true, true, true, true, true] rfl rfl (any_of HT_.out (by kernel_rfl)) (fun _ _ _ h => h) (Or.inl ⟨by rfl, ?_⟩) ?_ ?_
            rotate_left
            ·intro w'
             go_simp
             with_reducible rfl
            rotate_left
            ·simp only [Act.put, Xm, Xn, Xo, i64_w, i32_w]
             rfl
            refine done_ (done_of HT_.out (by kernel_rfl)) ?_
            try go_wp2
            go_roundg k2
            case measure => have := HK1.out; have := HK2.out; omega
            case rel => exact ⟨(ji5), (by first | rfl | (simp; done) | (simp only [← hji5] <;> (first | rfl | simp)) | (simp [*]; done)), H', ⟨by have := HK1.out; have := HK2.out; omega⟩, ⟨by repeat (with_reducible first | exact HB.out | apply Xc | apply Xa | apply Xb)⟩⟩
           ·rw [if_neg c9] at H
            have c9b0 : ((rd l0 (ji5)) == (wrap64 ((rd l0 x5_2) + 1))) = false := beq_eq_false_iff_ne.mpr c9
            have c9b1 : ((rd l0 (ji5)) != (wrap64 ((rd l0 x5_2) + 1))) = true := bne_iff_ne.mpr c9
            have H' := Aside0.mk H
            clear H
            try go_wp2
            have n0_ := Aside0.mk (Xb HB.out)
            clear HB
            have HB := n0_
            clear n0_
            have p304 : 0 ≤ ((ji5) : Int) := Xz (by first | (with_reducible assumption) | assumption)
            have q304 : (ji5) < (l0.length : Int) := Xz (by first | (with_reducible assumption) | assumption)
            obtain ⟨ad304, e304, hx304_0⟩ := Kd.at_int HR0.out (ji5) p304 q304
            have hw304_0 := hx304_0
            cases e304
            (try (replace hx304_0 := (HB.out.cell (Xt w _ hx304_0)).trans hx304_0))
            replace p304 := eq_true p304
            replace q304 := eq_true q304
            have p305 : 0 ≤ (x5_2 : Int) := Xz (by first | (with_reducible assumption) | assumption)
            have q305 : x5_2 < (l0.length : Int) := Xz (by first | (with_reducible assumption) | assumption)
            obtain ⟨ad305, e305, hx305_0⟩ := Kd.at_int HR0.out x5_2 p305 q305
            have hw305_0 := hx305_0
            obtain rfl : ad304 = ad305 := (by injection e305)
            (try (replace hx305_0 := (HB.out.cell (Xt w _ hx305_0)).trans hx305_0))
            replace p305 := eq_true p305
            replace q305 := eq_true q305
            refine start_ (n := 18) (S := fun w' => w'.cell? (ad304.add ((ji5)).toNat) = some (.int .i64 (rd l0 (ji5))) ∧ w'.cell? (ad304.add (x5_2).toNat) = some (.int .i64 (rd l0 x5_2))) (ds := []) #[false, false, false, false, false, false, false, false, false, false, false, false, false, false, false, false, false, false] (by kernel_rfl) rfl rfl ⟨((HB.out.cell (Xt w _ hw304_0)).trans hw304_0), ((HB.out.cell (Xt w _ hw305_0)).trans hw305_0)⟩ (fun hHeld => ?_); refine with_tabW spec_bpText.tab5 spec_bpText.bits5 (fun HT_ HW_ => ?_)
            generalize wr.drew = w11 at HB hx304_0 hx305_0 hHeld ⊢
            refine pure_ (i := 0) (N := some 11) (v := ?_) (a' := ?_) #[true, false, false, false, false, false, false, false, false, false, false, false, false, false, false, false, false, false] rfl rfl (any_of HT_.out (by kernel_rfl)) (fun _ _ _ h => h) (Or.inl ⟨by rfl, ?_⟩) ?_ ?_
            rotate_left
            ·intro w'
             go_simp
             with_reducible rfl
            rotate_left
            ·simp only [Act.put, Xm, Xn, Xo, i64_w, i32_w]
             rfl
            refine pure_ (i := 1) (N := some 12) (v := ?_) (a' := ?_) #[true, true, false, false, false, false, false, false, false, false, false, false, false, false, false, false, false, false] rfl rfl (any_of HT_.out (by kernel_rfl)) (fun _ _ _ h => h) (Or.inl ⟨by rfl, ?_⟩) ?_ ?_
            rotate_left
            ·intro w'
             go_simp
             with_reducible rfl
            rotate_left
            ·simp only [Act.put, Xm, Xn, Xo, i64_w, i32_w]
             rfl
            refine pure_ (i := 2) (N := some 13) (v := ?_) (a' := ?_) #[true, true, true, false, false, false, false, false, false, false, false, false, false, false, false, false, false, false] rfl rfl (any_of HT_.out (by kernel_rfl)) (fun _ _ _ h => h) (Or.inl ⟨by rfl, ?_⟩) ?_ ?_
            rotate_left
            ·intro w'
             go_simp
             with_reducible rfl
            rotate_left
            ·simp only [Act.put, Xm, Xn, Xo, i64_w, i32_w]
             rfl
            refine pure_ (i := 3) (N := some 14) (v := ?_) (a' := ?_) #[true, true, true, true, false, false, false, false, false, false, false, false, false, false, false, false, false, false] rfl rfl (any_of HT_.out (by kernel_rfl)) (fun _ _ _ h => h) (Or.inl ⟨by rfl, ?_⟩) ?_ ?_
            rotate_left
            ·intro w'
             go_simp
             with_reducible rfl
            rotate_left
            ·simp only [Act.put, Xm, Xn, Xo, i64_w, i32_w]
             rfl
            refine pure_ (i := 4) (N := some 15) (v := ?_) (a' := ?_) #[true, true, true, true, true, false, false, false, false, false, false, false, false, false, false, false, false, false] rfl rfl (any_of HT_.out (by kernel_rfl)) (fun _ _ _ h => h) (Or.inl ⟨by rfl, ?_⟩) ?_ ?_
            rotate_left
            ·intro w'
             go_simp
             with_reducible rfl
            rotate_left
            ·simp only [Act.put, Xm, Xn, Xo, i64_w, i32_w]
             rfl
            refine pure_ (i := 5) (N := some 16) (v := ?_) (a' := ?_) #[true, true, true, true, true, true, false, false, false, false, false, false, false, false, false, false, false, false] rfl rfl (any_of HT_.out (by kernel_rfl)) (fun _ _ _ h => h) (Or.inl ⟨by rfl, ?_⟩) ?_ ?_
            rotate_left
            ·intro w'
             go_simp
             with_reducible rfl
            rotate_left
            ·simp only [Act.put, Xm, Xn, Xo, i64_w, i32_w]
             rfl
            refine pure_ (i := 6) (N := some 17) (v := ?_) (a' := ?_) #[true, true, true, true, true, true, true, false, false, false, false, false, false, false, false, false, false, false] rfl rfl (any_of HT_.out (by kernel_rfl)) (fun _ _ _ h => h) (Or.inl ⟨by rfl, ?_⟩) ?_ ?_
            rotate_left
            ·intro w'
             go_simp
             with_reducible rfl
            rotate_left
            ·simp only [Act.put, Xm, Xn, Xo, i64_w, i32_w]
             rfl
            refine pure_ (i := 7) (N := some 18) (v := ?_) (a' := ?_) #[true, true, true, true, true, true, true, true, false, false, false, false, false, false, false, false, false, false] rfl rfl (any_of HT_.out (by kernel_rfl)) (fun _ _ _ h => h) (Or.inl ⟨by rfl, ?_⟩) ?_ ?_
            rotate_left
            ·intro w'
             go_simp
             with_reducible rfl
            rotate_left
            ·simp only [Act.put, Xm, Xn, Xo, i64_w, i32_w]
             rfl
            refine pure_ (i := 8) (N := some 19) (v := ?_) (a' := ?_) #[true, true, true, true, true, true, true, true, true, false, false, false, false, false, false, false, false, false] rfl rfl (any_of HT_.out (by kernel_rfl)) (fun _ _ _ h => h) (Or.inl ⟨by rfl, ?_⟩) ?_ ?_
            rotate_left
            ·intro w'
             go_simp
             with_reducible rfl
            rotate_left
            ·simp only [Act.put, Xm, Xn, Xo, i64_w, i32_w]
             rfl
            refine pure_ (i := 9) (N := some 20) (v := ?_) (a' := ?_) #[true, true, true, true, true, true, true, true, true, true, false, false, false, false, false, false, false, false] rfl rfl (any_of HT_.out (by kernel_rfl)) (fun _ _ _ h => h) (Or.inl ⟨by rfl, ?_⟩) ?_ ?_
            rotate_left
            ·intro w'
             go_simp
             with_reducible rfl
            rotate_left
            ·simp only [Act.put, Xm, Xn, Xo, i64_w, i32_w]
             rfl
            refine pure_ (i := 11) (N := some 22) (v := ?_) (a' := ?_) #[true, true, true, true, true, true, true, true, true, true, false, true, false, false, false, false, false, false] rfl rfl (any_of HT_.out (by kernel_rfl)) (fun _ _ _ h => h) (Or.inl ⟨by rfl, ?_⟩) ?_ ?_
            rotate_left
            ·intro w'
             go_simp
             with_reducible rfl
            rotate_left
            ·simp only [Act.put, Xm, Xn, Xo, i64_w, i32_w]
             rfl
            refine pure_ (i := 12) (N := some 23) (v := ?_) (a' := ?_) #[true, true, true, true, true, true, true, true, true, true, false, true, true, false, false, false, false, false] rfl rfl (any_of HT_.out (by kernel_rfl)) (fun _ _ _ h => h) (Or.inl ⟨by rfl, ?_⟩) ?_ ?_
            rotate_left
            ·intro w'
             go_simp
             with_reducible rfl
            rotate_left
            ·simp only [Act.put, Xm, Xn, Xo, i64_w, i32_w]
             rfl
            refine pure_ (i := 13) (N := some 24) (v := ?_) (a' := ?_) #[true, true, true, true, true, true, true, true, true, true, false, true, true, true, false, false, false, false] rfl rfl (any_of HT_.out (by kernel_rfl)) (fun _ _ _ h => h) (Or.inl ⟨by rfl, ?_⟩) ?_ ?_
            rotate_left
            ·intro w'
             go_simp
             with_reducible rfl
            rotate_left
            ·simp only [Act.put, Xm, Xn, Xo, i64_w, i32_w]
             rfl
            refine take_ (i := 10) (N := some 21) (v := ?_) (a' := ?_) #[true, true, true, true, true, true, true, true, true, true, true, true, true, true, false, false, false, false] rfl rfl (take_ofW HT_.out HW_.out (by kernel_rfl)) (fun _ _ _ h => h) (Or.inl ⟨by rfl, ?_⟩) hHeld ?_ ?_
            rotate_left
            ·rintro w' ⟨s0, s1⟩
             go_simp
             with_reducible rfl
            rotate_left
            ·simp only [Act.put, Xm, Xn, Xo, i64_w, i32_w]
             rfl
            refine take_ (i := 14) (N := some 25) (v := ?_) (a' := ?_) #[true, true, true, true, true, true, true, true, true, true, true, true, true, true, true, false, false, false] rfl rfl (take_ofW HT_.out HW_.out (by kernel_rfl)) (fun _ _ _ h => h) (Or.inl ⟨by rfl, ?_⟩) hHeld ?_ ?_
            rotate_left
            ·rintro w' ⟨s0, s1⟩
             go_simp
             with_reducible rfl
            rotate_left
            ·simp only [Act.put, Xm, Xn, Xo, i64_w, i32_w]
             rfl
            refine pure_ (i := 15) (N := some 26) (v := ?_) (a' := ?_) #[true, true, true, true, true, true, true, true, true, true, true, true, true, true, true, true, false, false] rfl rfl (any_of HT_.out (by kernel_rfl)) (fun _ _ _ h => h) (Or.inl ⟨by rfl, ?_⟩) ?_ ?_
            rotate_left
            ·intro w'
             go_simp
             with_reducible rfl
            rotate_left
            ·simp only [Act.put, Xm, Xn, Xo, i64_w, i32_w]
             rfl
            refine pure_ (i := 16) (N := some 27) (v := ?_) (a' := ?_) #[true, true, true, true, true, true, true, true, true, true, true, true, true, true, true, true, true, false] rfl rfl (any_of HT_.out (by kernel_rfl)) (fun _ _ _ h => h) (Or.inl ⟨by rfl, ?_⟩) ?_ ?_
            rotate_left
            ·intro w'
             go_simp
             with_reducible rfl
            rotate_left
            ·simp only [Act.put, Xm, Xn, Xo, i64_w, i32_w]
             rfl
            refine pure_ (i := 17) (N := some 28) (v := ?_) (a' := ?_) #[true, true, true, true, true, true, true, true, true, true, true, true, true, true, true, true, true, true] rfl rfl (any_of HT_.out (by kernel_rfl)) (fun _ _ _ h => h) (Or.inl ⟨by rfl, ?_⟩) ?_ ?_
            rotate_left
            ·intro w'
             go_simp
             with_reducible rfl
            rotate_left
            ·simp only [Act.put, Xm, Xn, Xo, i64_w, i32_w]
             rfl
            refine done_ (done_of HT_.out (by kernel_rfl)) ?_
            try go_wp2
            go_meet
            case rel => exact ⟨_, (x5_2), (by first | rfl | simp | simp [*]), H', ⟨by have := HK1.out; have := HK2.out; first | omega | exact Nat.le_refl _⟩, ⟨by repeat (with_reducible first | exact HB.out | apply Xc | apply Xa | apply Xb)⟩⟩
          ·rw [if_neg c8] at H
           exact absurd H (by simp)
         ·rw [if_neg c7] at H
          exact absurd H (by simp)
        ·rw [if_neg c6] at H
         exact absurd H (by simp)
       ·rw [if_neg c4] at H
        have c4b0 : decide ((wrap64 (x5_2 + 1)) < (l0.length : Int)) = false := decide_eq_false c4
        clear c4
        (first | rw [c4b0] | (simp only [i64_w, i32_w]; rw [c4b0]) | skip)
        have H' := Aside0.mk H
        clear H
        try go_wp2
        have n0_ := Aside0.mk (Xb HB.out)
        clear HB
        have HB := n0_
        clear n0_
        refine start_ (n := 18) (S := fun w' => True) (ds := []) #[false, false, false, false, false, false, false, false, false, false, false, false, false, false, false, false, false, false] (by kernel_rfl) rfl rfl trivial (fun hHeld => ?_); refine with_tabW spec_bpText.tab5 spec_bpText.bits5 (fun HT_ HW_ => ?_)
        generalize wr.drew = w12 at HB hHeld ⊢
        refine pure_ (i := 0) (N := some 11) (v := ?_) (a' := ?_) #[true, false, false, false, false, false, false, false, false, false, false, false, false, false, false, false, false, false] rfl rfl (any_of HT_.out (by kernel_rfl)) (fun _ _ _ h => h) (Or.inl ⟨by rfl, ?_⟩) ?_ ?_
        rotate_left
        ·intro w'
         go_simp
         with_reducible rfl
        rotate_left
        ·simp only [Act.put, Xm, Xn, Xo, i64_w, i32_w]
         rfl
        refine pure_ (i := 1) (N := some 12) (v := ?_) (a' := ?_) #[true, true, false, false, false, false, false, false, false, false, false, false, false, false, false, false, false, false] rfl rfl (any_of HT_.out (by kernel_rfl)) (fun _ _ _ h => h) (Or.inl ⟨by rfl, ?_⟩) ?_ ?_
        rotate_left
        ·intro w'
         go_simp
         with_reducible rfl
        rotate_left
        ·simp only [Act.put, Xm, Xn, Xo, i64_w, i32_w]
         rfl
        refine pure_ (i := 2) (N := some 13) (v := ?_) (a' := ?_) #[true, true, true, false, false, false, false, false, false, false, false, false, false, false, false, false, false, false] rfl rfl (any_of HT_.out (by kernel_rfl)) (fun _ _ _ h => h) (Or.inl ⟨by rfl, ?_⟩) ?_ ?_
        rotate_left
        ·intro w'
         go_simp
         with_reducible rfl
        rotate_left
        ·simp only [Act.put, Xm, Xn, Xo, i64_w, i32_w]
         rfl
        refine pure_ (i := 3) (N := some 14) (v := ?_) (a' := ?_) #[true, true, true, true, false, false, false, false, false, false, false, false, false, false, false, false, false, false] rfl rfl (any_of HT_.out (by kernel_rfl)) (fun _ _ _ h => h) (Or.inl ⟨by rfl, ?_⟩) ?_ ?_
        rotate_left
        ·intro w'
         go_simp
         with_reducible rfl
        rotate_left
        ·simp only [Act.put, Xm, Xn, Xo, i64_w, i32_w]
         rfl
        refine pure_ (i := 4) (N := some 15) (v := ?_) (a' := ?_) #[true, true, true, true, true, false, false, false, false, false, false, false, false, false, false, false, false, false] rfl rfl (any_of HT_.out (by kernel_rfl)) (fun _ _ _ h => h) (Or.inl ⟨by rfl, ?_⟩) ?_ ?_
        rotate_left
        ·intro w'
         go_simp
         with_reducible rfl
        rotate_left
        ·simp only [Act.put, Xm, Xn, Xo, i64_w, i32_w]
         rfl
        refine pure_ (i := 5) (N := some 16) (v := ?_) (a' := ?_) #[true, true, true, true, true, true, false, false, false, false, false, false, false, false, false, false, false, false] rfl rfl (any_of HT_.out (by kernel_rfl)) (fun _ _ _ h => h) (Or.inl ⟨by rfl, ?_⟩) ?_ ?_
        rotate_left
        ·intro w'
         go_simp
         with_reducible rfl
        rotate_left
        ·simp only [Act.put, Xm, Xn, Xo, i64_w, i32_w]
         rfl
        refine pure_ (i := 6) (N := some 17) (v := undef) (a' := ?_) #[true, true, true, true, true, true, true, false, false, false, false, false, false, false, false, false, false, false] rfl rfl (any_of HT_.out (by kernel_rfl)) (fun _ _ _ h => h) (Or.inr ⟨by rfl, rfl⟩) ?_ ?_
        rotate_left
        ·simp only [Act.put, Xm, Xn, Xo, i64_w, i32_w]
         rfl
        refine pure_ (i := 7) (N := some 18) (v := undef) (a' := ?_) #[true, true, true, true, true, true, true, true, false, false, false, false, false, false, false, false, false, false] rfl rfl (any_of HT_.out (by kernel_rfl)) (fun _ _ _ h => h) (Or.inr ⟨by rfl, rfl⟩) ?_ ?_
        rotate_left
        ·simp only [Act.put, Xm, Xn, Xo, i64_w, i32_w]
         rfl
        refine pure_ (i := 8) (N := some 19) (v := undef) (a' := ?_) #[true, true, true, true, true, true, true, true, true, false, false, false, false, false, false, false, false, false] rfl rfl (any_of HT_.out (by kernel_rfl)) (fun _ _ _ h => h) (Or.inr ⟨by rfl, rfl⟩) ?_ ?_
        rotate_left
        ·simp only [Act.put, Xm, Xn, Xo, i64_w, i32_w]
         rfl
        refine pure_ (i := 9) (N := some 20) (v := undef) (a' := ?_) #[true, true, true, true, true, true, true, true, true, true, false, false, false, false, false, false, false, false] rfl rfl (any_of HT_.out (by kernel_rfl)) (fun _ _ _ h => h) (Or.inr ⟨by rfl, rfl⟩) ?_ ?_
        rotate_left
        ·simp only [Act.put, Xm, Xn, Xo, i64_w, i32_w]
         rfl
        refine pure_ (i := 10) (N := some 21) (v := undef) (a' := ?_) #[true, true, true, true, true, true, true, true, true, true, true, false, false, false, false, false, false, false] rfl rfl (any_of HT_.out (by kernel_rfl)) (fun _ _ _ h => h) (Or.inr ⟨by rfl, rfl⟩) ?_ ?_
        rotate_left
        ·simp only [Act.put, Xm, Xn, Xo, i64_w, i32_w]
         rfl
        refine pure_ (i := 11) (N := some 22) (v := undef) (a' := ?_) #[true, true, true, true, true, true, true, true, true, true, true, true, false, false, false, false, false, false] rfl rfl (any_of HT_.out (by kernel_rfl)) (fun _ _ _ h => h) (Or.inr ⟨by rfl, rfl⟩) ?_ ?_
        rotate_left
        ·simp only [Act.put, Xm, Xn, Xo, i64_w, i32_w]
         rfl
        refine pure_ (i := 12) (N := some 23) (v := undef) (a' := ?_) #[true, true, true, true, true, true, true, true, true, true, true, true, true, false, false, false, false, false] rfl rfl (any_of HT_.out (by kernel_rfl)) (fun _ _ _ h => h) (Or.inr ⟨by rfl, rfl⟩) ?_ ?_
        rotate_left
        ·simp only [Act.put, Xm, Xn, Xo, i64_w, i32_w]
         rfl
        refine pure_ (i := 13) (N := some 24) (v := undef) (a' := ?_) #[true, true, true, true, true, true, true, true, true, true, true, true, true, true, false, false, false, false] rfl rfl (any_of HT_.out (by kernel_rfl)) (fun _ _ _ h => h) (Or.inr ⟨by rfl, rfl⟩) ?_ ?_
        rotate_left
        ·simp only [Act.put, Xm, Xn, Xo, i64_w, i32_w]
         rfl
        refine pure_ (i := 14) (N := some 25) (v := undef) (a' := ?_) #[true, true, true, true, true, true, true, true, true, true, true, true, true, true, true, false, false, false] rfl rfl (any_of HT_.out (by kernel_rfl)) (fun _ _ _ h => h) (Or.inr ⟨by rfl, rfl⟩) ?_ ?_
        rotate_left
        ·simp only [Act.put, Xm, Xn, Xo, i64_w, i32_w]
         rfl
        refine pure_ (i := 15) (N := some 26) (v := undef) (a' := ?_) #[true, true, true, true, true, true, true, true, true, true, true, true, true, true, true, true, false, false] rfl rfl (any_of HT_.out (by kernel_rfl)) (fun _ _ _ h => h) (Or.inr ⟨by rfl, rfl⟩) ?_ ?_
        rotate_left
        ·simp only [Act.put, Xm, Xn, Xo, i64_w, i32_w]
         rfl
        refine pure_ (i := 16) (N := some 27) (v := undef) (a' := ?_) #[true, true, true, true, true, true, true, true, true, true, true, true, true, true, true, true, true, false] rfl rfl (any_of HT_.out (by kernel_rfl)) (fun _ _ _ h => h) (Or.inr ⟨by rfl, rfl⟩) ?_ ?_
        rotate_left
        ·simp only [Act.put, Xm, Xn, Xo, i64_w, i32_w]
         rfl
        refine pure_ (i := 17) (N := some 28) (v := ?_) (a' := ?_) #[true, true, true, true, true, true, true, true, true, true, true, true, true, true, true, true, true, true] rfl rfl (any_of HT_.out (by kernel_rfl)) (fun _ _ _ h => h) (Or.inl ⟨by rfl, ?_⟩) ?_ ?_
        rotate_left
        ·intro w'
         go_simp
         with_reducible rfl
        rotate_left
        ·simp only [Act.put, Xm, Xn, Xo, i64_w, i32_w]
         rfl
        refine done_ (done_of HT_.out (by kernel_rfl)) ?_
        try go_wp2
        go_meet
        case rel => exact ⟨_, (x5_2), (by first | rfl | simp | simp [*]), H', ⟨by have := HK1.out; have := HK2.out; first | omega | exact Nat.le_refl _⟩, ⟨by repeat (with_reducible first | exact HB.out | apply Xc | apply Xa | apply Xb)⟩⟩
    case rest =>
     clear HC3
     try clear c2; try clear c2b0; try clear p2; try clear p3; try clear q3; try clear hx3; try clear c4; try clear c4b0; try clear c5; try clear c6; try clear c6b0; try clear p6; try clear c7; try clear c7b0; try clear c8; try clear c8b0; try clear c9; try clear c9b0; try clear c9b1; try clear hx304_0; try clear hx305_0; try clear p2; try clear p304; try clear p305; try clear q304; try clear q305
     obtain ⟨kq, x5_2, rfl, HA, HJ2, HB⟩ := hcut
     cases kq with
     | zero => exact absurd HA.out (by simp [spec_bpText.j2])
     | succ kj2 =>
      have H := HA.out
      clear HA
      simp only [spec_bpText.j2] at H
      have HC13 := Aside0.mk H
      clear H
      go_upto_if 32 with (fail)
      go_cut [3] (fun v3 wc => ∃ (kq : Nat) (x3_12 : ByteArray), v3 = .string x3_12 ∧ Aside0 (spec_bpText.j3 kq l0 x3_12 x4_1 x5_2 = some r) ∧ Aside0 (kq ≤ kj2) ∧ Aside0 (Below w.heap.size w wc))
      case first =>
       have H := HC13.out
       clear HC13
       by_cases c14 : x4_1 > 0
       ·rw [if_pos c14] at H
        have c14b0 : decide (0 < x4_1) = true := decide_eq_true c14
        clear c14
        (first | rw [c14b0] | (simp only [i64_w, i32_w]; rw [c14b0]) | skip)
        by_cases c15 : x3_1.size + 1 ≤ 9223372036854775807
        ·rw [if_pos c15] at H
         have c15b0 := eq_true c15
         have c15b1 : decide (x3_1.size + 1 ≤ 9223372036854775807) = true := decide_eq_true c15
         try have c15b2 : (9223372036854775807 < x3_1.size + 1) = False := eq_false (Nat.not_lt.2 c15)
         have H' := Aside0.mk H
         clear H
         go_wp2
         go_meet
         case rel => exact ⟨_, (x3_1 ++ (⟨#[44]⟩ : ByteArray)), (by first | rfl | simp | simp [*]), H', ⟨by have := HK1.out; have := HJ2.out; first | omega | exact Nat.le_refl _⟩, ⟨by repeat (with_reducible first | exact HB.out | apply Xc | apply Xa | apply Xb)⟩⟩
        ·rw [if_neg c15] at H
         exact absurd H (by simp)
       ·rw [if_neg c14] at H
        have c14b0 : decide (0 < x4_1) = false := decide_eq_false c14
        clear c14
        (first | rw [c14b0] | (simp only [i64_w, i32_w]; rw [c14b0]) | skip)
        have H' := Aside0.mk H
        clear H
        go_wp2
        go_meet
        case rel => exact ⟨_, (x3_1), (by first | rfl | simp | simp [*]), H', ⟨by have := HK1.out; have := HJ2.out; first | omega | exact Nat.le_refl _⟩, ⟨by repeat (with_reducible first | exact HB.out | apply Xc | apply Xa | apply Xb)⟩⟩
      case rest =>
       clear HC13
       try clear c1; try clear c2; try clear c2b0; try clear p2; try clear p3; try clear q3; try clear hx3; try clear c4; try clear c4b0; try clear c5; try clear c6; try clear c6b0; try clear p6; try clear c7; try clear c7b0; try clear c8; try clear c8b0; try clear c9; try clear c9b0; try clear c9b1; try clear c14; try clear c14b0; try clear c15; try clear c15b0; try clear c15b1; try clear c15b2; try clear hx304_0; try clear hx305_0; try clear p2; try clear p3; try clear p304; try clear p305; try clear p6; try clear q3; try clear q304; try clear q305
       obtain ⟨kq, x3_12, rfl, HA, HJ12, HB⟩ := hcut
       cases kq with
       | zero => exact absurd HA.out (by simp [spec_bpText.j3])
       | succ kj12 =>
        have H := HA.out
        clear HA
        simp only [spec_bpText.j3] at H
        by_cases c16 : (wrap64 (x5_2 - x4_1)) = 0
        ·rw [if_pos c16] at H
         have c16b0 : ((wrap64 (x5_2 - x4_1)) == 0) = true := beq_iff_eq.mpr c16
         have c16b1 : ((wrap64 (x5_2 - x4_1)) != 0) = false := bne_eq_false_iff_eq.mpr c16
         clear c16
         by_cases c17 : 0 ≤ x4_1
         ·rw [if_pos c17] at H
          have c17b0 : decide (0 ≤ x4_1) = true := decide_eq_true c17
          clear c17
          by_cases c18 : x4_1 < (l0.length : Int)
          ·rw [if_pos c18] at H
           have c18b0 : decide (x4_1 < (l0.length : Int)) = true := decide_eq_true c18
           clear c18
           replace H := Xs.mp H
           obtain ⟨t307, A190, H⟩ := H
           (try dsimp only at H)
           have A19 := Aside0.mk A190
           clear A190
           by_cases c20 : x3_12.size + t307.size ≤ 9223372036854775807
           ·rw [if_pos c20] at H
            have c20b0 := eq_true c20
            have c20b1 : decide (x3_12.size + t307.size ≤ 9223372036854775807) = true := decide_eq_true c20
            try have c20b2 : (9223372036854775807 < x3_12.size + t307.size) = False := eq_false (Nat.not_lt.2 c20)
            have H' := Aside0.mk H
            clear H
            have p306 : 0 ≤ (x4_1 : Int) := Xz (by first | (with_reducible assumption) | assumption)
            have q306 : x4_1 < (l0.length : Int) := Xz (by first | (with_reducible assumption) | assumption)
            obtain ⟨ad306, e306, hx306_0⟩ := Kd.at_int HR0.out x4_1 p306 q306
            cases e306
            (try (replace hx306_0 := (HB.out.cell (Xt w _ hx306_0)).trans hx306_0))
            replace p306 := eq_true p306
            replace q306 := eq_true q306
            go_wp2_with (first | ((with_reducible refine gate_callee (f := 47) rfl ?_); refine goesL_ (some 59) rfl rfl Tryz.func47 (by kernel_rfl) rfl #[.int .i64 (rd l0 x4_1)] rfl (by (try simp only [Xp, Xq, Xr]); first | done | rfl) ?_; (with_reducible refine (spec_l1Num.calls kj12 (rd l0 x4_1) t307 _ A19.out).mono ?_); rintro e w21 ⟨rfl, hb⟩; refine ⟨_, rfl, ?_⟩; replace HB := Aside0.mk (Xd (by repeat (with_reducible first | exact HB.out | apply Xc | apply Xa | apply Xb)) hb); (try clear hb)))
            go_roundg kj12
            case measure => have := HK1.out; have := HJ2.out; have := HJ12.out; omega
            case rel => exact ⟨(x3_12 ++ t307), (wrap64 (x5_2 + 1)), (by first | rfl | simp | simp [*]), (by first | rfl | simp | simp [*]), H', ⟨by have := HK1.out; have := HJ2.out; have := HJ12.out; omega⟩, ⟨by repeat (with_reducible first | exact HB.out | apply Xc | apply Xa | apply Xb)⟩⟩
           ·rw [if_neg c20] at H
            exact absurd H (by simp)
          ·rw [if_neg c18] at H
           exact absurd H (by simp)
         ·rw [if_neg c17] at H
          exact absurd H (by simp)
        ·rw [if_neg c16] at H
         have c16b0 : ((wrap64 (x5_2 - x4_1)) == 0) = false := beq_eq_false_iff_ne.mpr c16
         have c16b1 : ((wrap64 (x5_2 - x4_1)) != 0) = true := bne_iff_ne.mpr c16
         by_cases c22 : (wrap64 (x5_2 - x4_1)) = 1
         ·rw [if_pos c22] at H
          have c22b0 : ((wrap64 (x5_2 - x4_1)) == 1) = true := beq_iff_eq.mpr c22
          have c22b1 : ((wrap64 (x5_2 - x4_1)) != 1) = false := bne_eq_false_iff_eq.mpr c22
          clear c22
          by_cases c23 : 0 ≤ x4_1
          ·rw [if_pos c23] at H
           have c23b0 : decide (0 ≤ x4_1) = true := decide_eq_true c23
           clear c23
           by_cases c24 : x4_1 < (l0.length : Int)
           ·rw [if_pos c24] at H
            have c24b0 : decide (x4_1 < (l0.length : Int)) = true := decide_eq_true c24
            clear c24
            replace H := Xs.mp H
            obtain ⟨t309, A250, H⟩ := H
            (try dsimp only at H)
            have A25 := Aside0.mk A250
            clear A250
            by_cases c26 : t309.size + 1 ≤ 9223372036854775807
            ·rw [if_pos c26] at H
             have c26b0 := eq_true c26
             have c26b1 : decide (t309.size + 1 ≤ 9223372036854775807) = true := decide_eq_true c26
             try have c26b2 : (9223372036854775807 < t309.size + 1) = False := eq_false (Nat.not_lt.2 c26)
             by_cases c27 : 0 ≤ x5_2
             ·rw [if_pos c27] at H
              have c27b0 : decide (0 ≤ x5_2) = true := decide_eq_true c27
              clear c27
              by_cases c28 : x5_2 < (l0.length : Int)
              ·rw [if_pos c28] at H
               have c28b0 : decide (x5_2 < (l0.length : Int)) = true := decide_eq_true c28
               clear c28
               replace H := Xs.mp H
               obtain ⟨t311, A290, H⟩ := H
               (try dsimp only at H)
               have A29 := Aside0.mk A290
               clear A290
               by_cases c30 : (t309 ++ (⟨#[44]⟩ : ByteArray)).size + t311.size ≤ 9223372036854775807
               ·rw [if_pos c30] at H
                have c30b0 := eq_true c30
                have c30b1 : decide ((t309 ++ (⟨#[44]⟩ : ByteArray)).size + t311.size ≤ 9223372036854775807) = true := decide_eq_true c30
                try have c30b2 : (9223372036854775807 < (t309 ++ (⟨#[44]⟩ : ByteArray)).size + t311.size) = False := eq_false (Nat.not_lt.2 c30)
                try have c30b4 : (9223372036854775807 < t309.size + 1 + t311.size) = False := eq_false (by have q_ := Nat.not_lt.2 c30; simp only [ByteArray.size_append] at q_; exact q_)
                by_cases c31 : x3_12.size + ((t309 ++ (⟨#[44]⟩ : ByteArray)) ++ t311).size ≤ 9223372036854775807
                ·rw [if_pos c31] at H
                 have c31b0 := eq_true c31
                 have c31b1 : decide (x3_12.size + ((t309 ++ (⟨#[44]⟩ : ByteArray)) ++ t311).size ≤ 9223372036854775807) = true := decide_eq_true c31
                 try have c31b2 : (9223372036854775807 < x3_12.size + ((t309 ++ (⟨#[44]⟩ : ByteArray)) ++ t311).size) = False := eq_false (Nat.not_lt.2 c31)
                 try have c31b4 : (9223372036854775807 < x3_12.size + (t309.size + 1 + t311.size)) = False := eq_false (by have q_ := Nat.not_lt.2 c31; simp only [ByteArray.size_append] at q_; exact q_)
                 have H' := Aside0.mk H
                 clear H
                 try go_wp2
                 have n0_ := Aside0.mk (Xb HB.out)
                 clear HB
                 have HB := n0_
                 clear n0_
                 have p308 : 0 ≤ (x4_1 : Int) := Xz (by first | (with_reducible assumption) | assumption)
                 have q308 : x4_1 < (l0.length : Int) := Xz (by first | (with_reducible assumption) | assumption)
                 obtain ⟨ad308, e308, hx308_0⟩ := Kd.at_int HR0.out x4_1 p308 q308
                 have hw308_0 := hx308_0
                 cases e308
                 (try (replace hx308_0 := (HB.out.cell (Xt w _ hx308_0)).trans hx308_0))
                 replace p308 := eq_true p308
                 replace q308 := eq_true q308
                 have p310 : 0 ≤ (x5_2 : Int) := Xz (by first | (with_reducible assumption) | assumption)
                 have q310 : x5_2 < (l0.length : Int) := Xz (by first | (with_reducible assumption) | assumption)
                 obtain ⟨ad310, e310, hx310_0⟩ := Kd.at_int HR0.out x5_2 p310 q310
                 have hw310_0 := hx310_0
                 obtain rfl : ad308 = ad310 := (by injection e310)
                 (try (replace hx310_0 := (HB.out.cell (Xt w _ hx310_0)).trans hx310_0))
                 replace p310 := eq_true p310
                 replace q310 := eq_true q310
                 refine start_ (n := 15) (S := fun w' => w'.cell? (ad308.add (x4_1).toNat) = some (.int .i64 (rd l0 x4_1)) ∧ w'.cell? (ad308.add (x5_2).toNat) = some (.int .i64 (rd l0 x5_2))) (ds := []) #[false, false, false, false, false, false, false, false, false, false, false, false, false, false, false] (by kernel_rfl) rfl rfl ⟨((HB.out.cell (Xt w _ hw308_0)).trans hw308_0), ((HB.out.cell (Xt w _ hw310_0)).trans hw310_0)⟩ (fun hHeld => ?_); refine with_tabW spec_bpText.tab14 spec_bpText.bits14 (fun HT_ HW_ => ?_)
                 generalize wc.drew = w32 at HB hx308_0 hx310_0 hHeld ⊢
                 refine pure_ (i := 0) (N := some 63) (v := ?_) (a' := ?_) #[true, false, false, false, false, false, false, false, false, false, false, false, false, false, false] rfl rfl (any_of HT_.out (by kernel_rfl)) (fun _ _ _ h => h) (Or.inl ⟨by rfl, ?_⟩) ?_ ?_
                 rotate_left
                 ·intro w'
                  go_simp
                  with_reducible rfl
                 rotate_left
                 ·simp only [Act.put, Xm, Xn, Xo, i64_w, i32_w]
                  rfl
                 refine pure_ (i := 1) (N := some 64) (v := ?_) (a' := ?_) #[true, true, false, false, false, false, false, false, false, false, false, false, false, false, false] rfl rfl (any_of HT_.out (by kernel_rfl)) (fun _ _ _ h => h) (Or.inl ⟨by rfl, ?_⟩) ?_ ?_
                 rotate_left
                 ·intro w'
                  go_simp
                  with_reducible rfl
                 rotate_left
                 ·simp only [Act.put, Xm, Xn, Xo, i64_w, i32_w]
                  rfl
                 refine pure_ (i := 2) (N := some 65) (v := ?_) (a' := ?_) #[true, true, true, false, false, false, false, false, false, false, false, false, false, false, false] rfl rfl (any_of HT_.out (by kernel_rfl)) (fun _ _ _ h => h) (Or.inl ⟨by rfl, ?_⟩) ?_ ?_
                 rotate_left
                 ·intro w'
                  go_simp
                  with_reducible rfl
                 rotate_left
                 ·simp only [Act.put, Xm, Xn, Xo, i64_w, i32_w]
                  rfl
                 refine pure_ (i := 3) (N := some 66) (v := ?_) (a' := ?_) #[true, true, true, true, false, false, false, false, false, false, false, false, false, false, false] rfl rfl (any_of HT_.out (by kernel_rfl)) (fun _ _ _ h => h) (Or.inl ⟨by rfl, ?_⟩) ?_ ?_
                 rotate_left
                 ·intro w'
                  go_simp
                  with_reducible rfl
                 rotate_left
                 ·simp only [Act.put, Xm, Xn, Xo, i64_w, i32_w]
                  rfl
                 refine pure_ (i := 7) (N := some 70) (v := ?_) (a' := ?_) #[true, true, true, true, false, false, false, true, false, false, false, false, false, false, false] rfl rfl (any_of HT_.out (by kernel_rfl)) (fun _ _ _ h => h) (Or.inl ⟨by rfl, ?_⟩) ?_ ?_
                 rotate_left
                 ·intro w'
                  go_simp
                  with_reducible rfl
                 rotate_left
                 ·simp only [Act.put, Xm, Xn, Xo, i64_w, i32_w]
                  rfl
                 refine pure_ (i := 8) (N := some 71) (v := ?_) (a' := ?_) #[true, true, true, true, false, false, false, true, true, false, false, false, false, false, false] rfl rfl (any_of HT_.out (by kernel_rfl)) (fun _ _ _ h => h) (Or.inl ⟨by rfl, ?_⟩) ?_ ?_
                 rotate_left
                 ·intro w'
                  go_simp
                  with_reducible rfl
                 rotate_left
                 ·simp only [Act.put, Xm, Xn, Xo, i64_w, i32_w]
                  rfl
                 refine pure_ (i := 9) (N := some 72) (v := ?_) (a' := ?_) #[true, true, true, true, false, false, false, true, true, true, false, false, false, false, false] rfl rfl (any_of HT_.out (by kernel_rfl)) (fun _ _ _ h => h) (Or.inl ⟨by rfl, ?_⟩) ?_ ?_
                 rotate_left
                 ·intro w'
                  go_simp
                  with_reducible rfl
                 rotate_left
                 ·simp only [Act.put, Xm, Xn, Xo, i64_w, i32_w]
                  rfl
                 refine take_ (i := 4) (N := some 67) (v := ?_) (a' := ?_) #[true, true, true, true, true, false, false, true, true, true, false, false, false, false, false] rfl rfl (take_ofW HT_.out HW_.out (by kernel_rfl)) (fun _ _ _ h => h) (Or.inl ⟨by rfl, ?_⟩) hHeld ?_ ?_
                 rotate_left
                 ·rintro w' ⟨s0, s1⟩
                  go_simp
                  with_reducible rfl
                 rotate_left
                 ·simp only [Act.put, Xm, Xn, Xo, i64_w, i32_w]
                  rfl
                 refine take_ (i := 10) (N := some 73) (v := ?_) (a' := ?_) #[true, true, true, true, true, false, false, true, true, true, true, false, false, false, false] rfl rfl (take_ofW HT_.out HW_.out (by kernel_rfl)) (fun _ _ _ h => h) (Or.inl ⟨by rfl, ?_⟩) hHeld ?_ ?_
                 rotate_left
                 ·rintro w' ⟨s0, s1⟩
                  go_simp
                  with_reducible rfl
                 rotate_left
                 ·simp only [Act.put, Xm, Xn, Xo, i64_w, i32_w]
                  rfl
                 refine one_ (i := 5) (N := some 68) #[true, true, true, true, true, true, false, true, true, true, true, false, false, false, false] rfl rfl (one_of HT_.out (by kernel_rfl)) (by decide) (fun K hK => ?_)
                 refine goes_ Tryz.func47 (by kernel_rfl) rfl #[.int .i64 (rd l0 x4_1)] (by rfl) rfl rfl (by (try simp only [Xp, Xq, Xr]); first | done | rfl) ?_
                 with_reducible refine (spec_l1Num.calls kj12 (rd l0 x4_1) t309 _ A25.out).mono ?_
                 rintro e w33 ⟨rfl, hb⟩
                 refine ⟨_, rfl, ?_⟩
                 have n0_ := Aside0.mk (Xd (by repeat (with_reducible first | exact HB.out | apply Xc | apply Xa | apply Xb)) hb)
                 clear HB
                 have HB := n0_
                 clear n0_
                 (try clear hb)
                 (try clear hb2)
                 (try clear hk)
                 (try clear hi)
                 refine hK.out _ _ ⟨((HB.out.cell (Xt w _ hw308_0)).trans hw308_0), ((HB.out.cell (Xt w _ hw310_0)).trans hw310_0)⟩ (fun hHeld => ?_)
                 clear hK K
                 refine norm_ (a' := ?_) ?_ ?_
                 rotate_left
                 ·show Act.put _ (some 68) _ = _
                  simp only [Act.put, Xm, Xn, Xo, i64_w, i32_w]
                  rfl
                 refine pure_ (i := 6) (N := some 69) (v := ?_) (a' := ?_) #[true, true, true, true, true, true, true, true, true, true, true, false, false, false, false] rfl rfl (any_of HT_.out (by kernel_rfl)) (fun _ _ _ h => h) (Or.inl ⟨by rfl, ?_⟩) ?_ ?_
                 rotate_left
                 ·intro w'
                  go_simp
                  with_reducible rfl
                 rotate_left
                 ·simp only [Act.put, Xm, Xn, Xo, i64_w, i32_w]
                  rfl
                 refine one_ (i := 11) (N := some 74) #[true, true, true, true, true, true, true, true, true, true, true, true, false, false, false] rfl rfl (one_of HT_.out (by kernel_rfl)) (by decide) (fun K hK => ?_)
                 refine goes_ Tryz.func47 (by kernel_rfl) rfl #[.int .i64 (rd l0 x5_2)] (by rfl) rfl rfl (by (try simp only [Xp, Xq, Xr]); first | done | rfl) ?_
                 with_reducible refine (spec_l1Num.calls kj12 (rd l0 x5_2) t311 _ A29.out).mono ?_
                 rintro e w34 ⟨rfl, hb⟩
                 refine ⟨_, rfl, ?_⟩
                 have n0_ := Aside0.mk (Xd (by repeat (with_reducible first | exact HB.out | apply Xc | apply Xa | apply Xb)) hb)
                 clear HB
                 have HB := n0_
                 clear n0_
                 (try clear hb)
                 (try clear hb2)
                 (try clear hk)
                 (try clear hi)
                 refine hK.out _ _ ⟨((HB.out.cell (Xt w _ hw308_0)).trans hw308_0), ((HB.out.cell (Xt w _ hw310_0)).trans hw310_0)⟩ (fun hHeld => ?_)
                 clear hK K
                 refine norm_ (a' := ?_) ?_ ?_
                 rotate_left
                 ·show Act.put _ (some 74) _ = _
                  simp only [Act.put, Xm, Xn, Xo, i64_w, i32_w]
                  rfl
                 refine pure_ (i := 12) (N := some 75) (v := ?_) (a' := ?_) #[true, true, true, true, true, true, true, true, true, true, true, true, true, false, false] rfl rfl (any_of HT_.out (by kernel_rfl)) (fun _ _ _ h => h) (Or.inl ⟨by rfl, ?_⟩) ?_ ?_
                 rotate_left
                 ·intro w'
                  go_simp
                  with_reducible rfl
                 rotate_left
                 ·simp only [Act.put, Xm, Xn, Xo, i64_w, i32_w]
                  rfl
                 refine pure_ (i := 13) (N := some 76) (v := ?_) (a' := ?_) #[true, true, true, true, true, true, true, true, true, true, true, true, true, true, false] rfl rfl (any_of HT_.out (by kernel_rfl)) (fun _ _ _ h => h) (Or.inl ⟨by rfl, ?_⟩) ?_ ?_
                 rotate_left
                 ·intro w'
                  go_simp
                  with_reducible rfl
                 rotate_left
                 ·simp only [Act.put, Xm, Xn, Xo, i64_w, i32_w]
                  rfl
                 refine pure_ (i := 14) (N := some 3) (v := ?_) (a' := ?_) #[true, true, true, true, true, true, true, true, true, true, true, true, true, true, true] rfl rfl (any_of HT_.out (by kernel_rfl)) (fun _ _ _ h => h) (Or.inl ⟨by rfl, ?_⟩) ?_ ?_
                 rotate_left
                 ·intro w'
                  go_simp
                  with_reducible rfl
                 rotate_left
                 ·simp only [Act.put, Xm, Xn, Xo, i64_w, i32_w]
                  rfl
                 refine done_ (done_of HT_.out (by kernel_rfl)) ?_
                 try go_wp2
                 go_roundg kj12
                 case measure => have := HK1.out; have := HJ2.out; have := HJ12.out; omega
                 case rel => exact ⟨(x3_12 ++ ((t309 ++ (⟨#[44]⟩ : ByteArray)) ++ t311)), (wrap64 (x5_2 + 1)), (by first | rfl | simp | simp [*]), (by first | rfl | simp | simp [*]), H', ⟨by have := HK1.out; have := HJ2.out; have := HJ12.out; omega⟩, ⟨by repeat (with_reducible first | exact HB.out | apply Xc | apply Xa | apply Xb)⟩⟩
                ·rw [if_neg c31] at H
                 exact absurd H (by simp)
               ·rw [if_neg c30] at H
                exact absurd H (by simp)
              ·rw [if_neg c28] at H
               exact absurd H (by simp)
             ·rw [if_neg c27] at H
              exact absurd H (by simp)
            ·rw [if_neg c26] at H
             exact absurd H (by simp)
           ·rw [if_neg c24] at H
            exact absurd H (by simp)
          ·rw [if_neg c23] at H
           exact absurd H (by simp)
         ·rw [if_neg c22] at H
          have c22b0 : ((wrap64 (x5_2 - x4_1)) == 1) = false := beq_eq_false_iff_ne.mpr c22
          have c22b1 : ((wrap64 (x5_2 - x4_1)) != 1) = true := bne_iff_ne.mpr c22
          by_cases c35 : 0 ≤ x4_1
          ·rw [if_pos c35] at H
           have c35b0 : decide (0 ≤ x4_1) = true := decide_eq_true c35
           clear c35
           by_cases c36 : x4_1 < (l0.length : Int)
           ·rw [if_pos c36] at H
            have c36b0 : decide (x4_1 < (l0.length : Int)) = true := decide_eq_true c36
            clear c36
            replace H := Xs.mp H
            obtain ⟨t313, A370, H⟩ := H
            (try dsimp only at H)
            have A37 := Aside0.mk A370
            clear A370
            by_cases c38 : t313.size + 1 ≤ 9223372036854775807
            ·rw [if_pos c38] at H
             have c38b0 := eq_true c38
             have c38b1 : decide (t313.size + 1 ≤ 9223372036854775807) = true := decide_eq_true c38
             try have c38b2 : (9223372036854775807 < t313.size + 1) = False := eq_false (Nat.not_lt.2 c38)
             by_cases c39 : 0 ≤ x5_2
             ·rw [if_pos c39] at H
              have c39b0 : decide (0 ≤ x5_2) = true := decide_eq_true c39
              clear c39
              by_cases c40 : x5_2 < (l0.length : Int)
              ·rw [if_pos c40] at H
               have c40b0 : decide (x5_2 < (l0.length : Int)) = true := decide_eq_true c40
               clear c40
               replace H := Xs.mp H
               obtain ⟨t315, A410, H⟩ := H
               (try dsimp only at H)
               have A41 := Aside0.mk A410
               clear A410
               by_cases c42 : (t313 ++ (⟨#[45]⟩ : ByteArray)).size + t315.size ≤ 9223372036854775807
               ·rw [if_pos c42] at H
                have c42b0 := eq_true c42
                have c42b1 : decide ((t313 ++ (⟨#[45]⟩ : ByteArray)).size + t315.size ≤ 9223372036854775807) = true := decide_eq_true c42
                try have c42b2 : (9223372036854775807 < (t313 ++ (⟨#[45]⟩ : ByteArray)).size + t315.size) = False := eq_false (Nat.not_lt.2 c42)
                try have c42b4 : (9223372036854775807 < t313.size + 1 + t315.size) = False := eq_false (by have q_ := Nat.not_lt.2 c42; simp only [ByteArray.size_append] at q_; exact q_)
                by_cases c43 : x3_12.size + ((t313 ++ (⟨#[45]⟩ : ByteArray)) ++ t315).size ≤ 9223372036854775807
                ·rw [if_pos c43] at H
                 have c43b0 := eq_true c43
                 have c43b1 : decide (x3_12.size + ((t313 ++ (⟨#[45]⟩ : ByteArray)) ++ t315).size ≤ 9223372036854775807) = true := decide_eq_true c43
                 try have c43b2 : (9223372036854775807 < x3_12.size + ((t313 ++ (⟨#[45]⟩ : ByteArray)) ++ t315).size) = False := eq_false (Nat.not_lt.2 c43)
                 try have c43b4 : (9223372036854775807 < x3_12.size + (t313.size + 1 + t315.size)) = False := eq_false (by have q_ := Nat.not_lt.2 c43; simp only [ByteArray.size_append] at q_; exact q_)
                 have H' := Aside0.mk H
                 clear H
                 try go_wp2
                 have n0_ := Aside0.mk (Xb HB.out)
                 clear HB
                 have HB := n0_
                 clear n0_
                 have p312 : 0 ≤ (x4_1 : Int) := Xz (by first | (with_reducible assumption) | assumption)
                 have q312 : x4_1 < (l0.length : Int) := Xz (by first | (with_reducible assumption) | assumption)
                 obtain ⟨ad312, e312, hx312_0⟩ := Kd.at_int HR0.out x4_1 p312 q312
                 have hw312_0 := hx312_0
                 cases e312
                 (try (replace hx312_0 := (HB.out.cell (Xt w _ hx312_0)).trans hx312_0))
                 replace p312 := eq_true p312
                 replace q312 := eq_true q312
                 have p314 : 0 ≤ (x5_2 : Int) := Xz (by first | (with_reducible assumption) | assumption)
                 have q314 : x5_2 < (l0.length : Int) := Xz (by first | (with_reducible assumption) | assumption)
                 obtain ⟨ad314, e314, hx314_0⟩ := Kd.at_int HR0.out x5_2 p314 q314
                 have hw314_0 := hx314_0
                 obtain rfl : ad312 = ad314 := (by injection e314)
                 (try (replace hx314_0 := (HB.out.cell (Xt w _ hx314_0)).trans hx314_0))
                 replace p314 := eq_true p314
                 replace q314 := eq_true q314
                 refine start_ (n := 15) (S := fun w' => w'.cell? (ad312.add (x4_1).toNat) = some (.int .i64 (rd l0 x4_1)) ∧ w'.cell? (ad312.add (x5_2).toNat) = some (.int .i64 (rd l0 x5_2))) (ds := []) #[false, false, false, false, false, false, false, false, false, false, false, false, false, false, false] (by kernel_rfl) rfl rfl ⟨((HB.out.cell (Xt w _ hw312_0)).trans hw312_0), ((HB.out.cell (Xt w _ hw314_0)).trans hw314_0)⟩ (fun hHeld => ?_); refine with_tabW spec_bpText.tab10 spec_bpText.bits10 (fun HT_ HW_ => ?_)
                 generalize wc.drew = w44 at HB hx312_0 hx314_0 hHeld ⊢
                 refine pure_ (i := 0) (N := some 38) (v := ?_) (a' := ?_) #[true, false, false, false, false, false, false, false, false, false, false, false, false, false, false] rfl rfl (any_of HT_.out (by kernel_rfl)) (fun _ _ _ h => h) (Or.inl ⟨by rfl, ?_⟩) ?_ ?_
                 rotate_left
                 ·intro w'
                  go_simp
                  with_reducible rfl
                 rotate_left
                 ·simp only [Act.put, Xm, Xn, Xo, i64_w, i32_w]
                  rfl
                 refine pure_ (i := 1) (N := some 39) (v := ?_) (a' := ?_) #[true, true, false, false, false, false, false, false, false, false, false, false, false, false, false] rfl rfl (any_of HT_.out (by kernel_rfl)) (fun _ _ _ h => h) (Or.inl ⟨by rfl, ?_⟩) ?_ ?_
                 rotate_left
                 ·intro w'
                  go_simp
                  with_reducible rfl
                 rotate_left
                 ·simp only [Act.put, Xm, Xn, Xo, i64_w, i32_w]
                  rfl
                 refine pure_ (i := 2) (N := some 40) (v := ?_) (a' := ?_) #[true, true, true, false, false, false, false, false, false, false, false, false, false, false, false] rfl rfl (any_of HT_.out (by kernel_rfl)) (fun _ _ _ h => h) (Or.inl ⟨by rfl, ?_⟩) ?_ ?_
                 rotate_left
                 ·intro w'
                  go_simp
                  with_reducible rfl
                 rotate_left
                 ·simp only [Act.put, Xm, Xn, Xo, i64_w, i32_w]
                  rfl
                 refine pure_ (i := 3) (N := some 41) (v := ?_) (a' := ?_) #[true, true, true, true, false, false, false, false, false, false, false, false, false, false, false] rfl rfl (any_of HT_.out (by kernel_rfl)) (fun _ _ _ h => h) (Or.inl ⟨by rfl, ?_⟩) ?_ ?_
                 rotate_left
                 ·intro w'
                  go_simp
                  with_reducible rfl
                 rotate_left
                 ·simp only [Act.put, Xm, Xn, Xo, i64_w, i32_w]
                  rfl
                 refine pure_ (i := 7) (N := some 45) (v := ?_) (a' := ?_) #[true, true, true, true, false, false, false, true, false, false, false, false, false, false, false] rfl rfl (any_of HT_.out (by kernel_rfl)) (fun _ _ _ h => h) (Or.inl ⟨by rfl, ?_⟩) ?_ ?_
                 rotate_left
                 ·intro w'
                  go_simp
                  with_reducible rfl
                 rotate_left
                 ·simp only [Act.put, Xm, Xn, Xo, i64_w, i32_w]
                  rfl
                 refine pure_ (i := 8) (N := some 46) (v := ?_) (a' := ?_) #[true, true, true, true, false, false, false, true, true, false, false, false, false, false, false] rfl rfl (any_of HT_.out (by kernel_rfl)) (fun _ _ _ h => h) (Or.inl ⟨by rfl, ?_⟩) ?_ ?_
                 rotate_left
                 ·intro w'
                  go_simp
                  with_reducible rfl
                 rotate_left
                 ·simp only [Act.put, Xm, Xn, Xo, i64_w, i32_w]
                  rfl
                 refine pure_ (i := 9) (N := some 47) (v := ?_) (a' := ?_) #[true, true, true, true, false, false, false, true, true, true, false, false, false, false, false] rfl rfl (any_of HT_.out (by kernel_rfl)) (fun _ _ _ h => h) (Or.inl ⟨by rfl, ?_⟩) ?_ ?_
                 rotate_left
                 ·intro w'
                  go_simp
                  with_reducible rfl
                 rotate_left
                 ·simp only [Act.put, Xm, Xn, Xo, i64_w, i32_w]
                  rfl
                 refine take_ (i := 4) (N := some 42) (v := ?_) (a' := ?_) #[true, true, true, true, true, false, false, true, true, true, false, false, false, false, false] rfl rfl (take_ofW HT_.out HW_.out (by kernel_rfl)) (fun _ _ _ h => h) (Or.inl ⟨by rfl, ?_⟩) hHeld ?_ ?_
                 rotate_left
                 ·rintro w' ⟨s0, s1⟩
                  go_simp
                  with_reducible rfl
                 rotate_left
                 ·simp only [Act.put, Xm, Xn, Xo, i64_w, i32_w]
                  rfl
                 refine take_ (i := 10) (N := some 48) (v := ?_) (a' := ?_) #[true, true, true, true, true, false, false, true, true, true, true, false, false, false, false] rfl rfl (take_ofW HT_.out HW_.out (by kernel_rfl)) (fun _ _ _ h => h) (Or.inl ⟨by rfl, ?_⟩) hHeld ?_ ?_
                 rotate_left
                 ·rintro w' ⟨s0, s1⟩
                  go_simp
                  with_reducible rfl
                 rotate_left
                 ·simp only [Act.put, Xm, Xn, Xo, i64_w, i32_w]
                  rfl
                 refine one_ (i := 5) (N := some 43) #[true, true, true, true, true, true, false, true, true, true, true, false, false, false, false] rfl rfl (one_of HT_.out (by kernel_rfl)) (by decide) (fun K hK => ?_)
                 refine goes_ Tryz.func47 (by kernel_rfl) rfl #[.int .i64 (rd l0 x4_1)] (by rfl) rfl rfl (by (try simp only [Xp, Xq, Xr]); first | done | rfl) ?_
                 with_reducible refine (spec_l1Num.calls kj12 (rd l0 x4_1) t313 _ A37.out).mono ?_
                 rintro e w45 ⟨rfl, hb⟩
                 refine ⟨_, rfl, ?_⟩
                 have n0_ := Aside0.mk (Xd (by repeat (with_reducible first | exact HB.out | apply Xc | apply Xa | apply Xb)) hb)
                 clear HB
                 have HB := n0_
                 clear n0_
                 (try clear hb)
                 (try clear hb2)
                 (try clear hk)
                 (try clear hi)
                 refine hK.out _ _ ⟨((HB.out.cell (Xt w _ hw312_0)).trans hw312_0), ((HB.out.cell (Xt w _ hw314_0)).trans hw314_0)⟩ (fun hHeld => ?_)
                 clear hK K
                 refine norm_ (a' := ?_) ?_ ?_
                 rotate_left
                 ·show Act.put _ (some 43) _ = _
                  simp only [Act.put, Xm, Xn, Xo, i64_w, i32_w]
                  rfl
                 refine pure_ (i := 6) (N := some 44) (v := ?_) (a' := ?_) #[true, true, true, true, true, true, true, true, true, true, true, false, false, false, false] rfl rfl (any_of HT_.out (by kernel_rfl)) (fun _ _ _ h => h) (Or.inl ⟨by rfl, ?_⟩) ?_ ?_
                 rotate_left
                 ·intro w'
                  go_simp
                  with_reducible rfl
                 rotate_left
                 ·simp only [Act.put, Xm, Xn, Xo, i64_w, i32_w]
                  rfl
                 refine one_ (i := 11) (N := some 49) #[true, true, true, true, true, true, true, true, true, true, true, true, false, false, false] rfl rfl (one_of HT_.out (by kernel_rfl)) (by decide) (fun K hK => ?_)
                 refine goes_ Tryz.func47 (by kernel_rfl) rfl #[.int .i64 (rd l0 x5_2)] (by rfl) rfl rfl (by (try simp only [Xp, Xq, Xr]); first | done | rfl) ?_
                 with_reducible refine (spec_l1Num.calls kj12 (rd l0 x5_2) t315 _ A41.out).mono ?_
                 rintro e w46 ⟨rfl, hb⟩
                 refine ⟨_, rfl, ?_⟩
                 have n0_ := Aside0.mk (Xd (by repeat (with_reducible first | exact HB.out | apply Xc | apply Xa | apply Xb)) hb)
                 clear HB
                 have HB := n0_
                 clear n0_
                 (try clear hb)
                 (try clear hb2)
                 (try clear hk)
                 (try clear hi)
                 refine hK.out _ _ ⟨((HB.out.cell (Xt w _ hw312_0)).trans hw312_0), ((HB.out.cell (Xt w _ hw314_0)).trans hw314_0)⟩ (fun hHeld => ?_)
                 clear hK K
                 refine norm_ (a' := ?_) ?_ ?_
                 rotate_left
                 ·show Act.put _ (some 49) _ = _
                  simp only [Act.put, Xm, Xn, Xo, i64_w, i32_w]
                  rfl
                 refine pure_ (i := 12) (N := some 50) (v := ?_) (a' := ?_) #[true, true, true, true, true, true, true, true, true, true, true, true, true, false, false] rfl rfl (any_of HT_.out (by kernel_rfl)) (fun _ _ _ h => h) (Or.inl ⟨by rfl, ?_⟩) ?_ ?_
                 rotate_left
                 ·intro w'
                  go_simp
                  with_reducible rfl
                 rotate_left
                 ·simp only [Act.put, Xm, Xn, Xo, i64_w, i32_w]
                  rfl
                 refine pure_ (i := 13) (N := some 51) (v := ?_) (a' := ?_) #[true, true, true, true, true, true, true, true, true, true, true, true, true, true, false] rfl rfl (any_of HT_.out (by kernel_rfl)) (fun _ _ _ h => h) (Or.inl ⟨by rfl, ?_⟩) ?_ ?_
                 rotate_left
                 ·intro w'
                  go_simp
                  with_reducible rfl
                 rotate_left
                 ·simp only [Act.put, Xm, Xn, Xo, i64_w, i32_w]
                  rfl
                 refine pure_ (i := 14) (N := some 3) (v := ?_) (a' := ?_) #[true, true, true, true, true, true, true, true, true, true, true, true, true, true, true] rfl rfl (any_of HT_.out (by kernel_rfl)) (fun _ _ _ h => h) (Or.inl ⟨by rfl, ?_⟩) ?_ ?_
                 rotate_left
                 ·intro w'
                  go_simp
                  with_reducible rfl
                 rotate_left
                 ·simp only [Act.put, Xm, Xn, Xo, i64_w, i32_w]
                  rfl
                 refine done_ (done_of HT_.out (by kernel_rfl)) ?_
                 try go_wp2
                 go_roundg kj12
                 case measure => have := HK1.out; have := HJ2.out; have := HJ12.out; omega
                 case rel => exact ⟨(x3_12 ++ ((t313 ++ (⟨#[45]⟩ : ByteArray)) ++ t315)), (wrap64 (x5_2 + 1)), (by first | rfl | simp | simp [*]), (by first | rfl | simp | simp [*]), H', ⟨by have := HK1.out; have := HJ2.out; have := HJ12.out; omega⟩, ⟨by repeat (with_reducible first | exact HB.out | apply Xc | apply Xa | apply Xb)⟩⟩
                ·rw [if_neg c43] at H
                 exact absurd H (by simp)
               ·rw [if_neg c42] at H
                exact absurd H (by simp)
              ·rw [if_neg c40] at H
               exact absurd H (by simp)
             ·rw [if_neg c39] at H
              exact absurd H (by simp)
            ·rw [if_neg c38] at H
             exact absurd H (by simp)
           ·rw [if_neg c36] at H
            exact absurd H (by simp)
          ·rw [if_neg c35] at H
           exact absurd H (by simp)
   ·rw [if_neg c2] at H
    have c2b0 : decide (x4_1 < (l0.length : Int)) = false := decide_eq_false c2
    clear c2
    obtain rfl := Option.some.inj H
    go_wp2
    go_ret
    exact ⟨by first | rfl | (simp [*, errW_none, errW_some] <;> rfl), by repeat (with_reducible first | exact HB.out | apply Xc | apply Xa | apply Xb)⟩

end Go.Proofs.YtjkfgeigicljpaaGreatDoor.PFnPagesNumbered
