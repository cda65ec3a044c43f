-- WRITTEN BY A PROGRAM OF THIS SESSION (xprint), out of the translation: not trusted: it is checked as any text
import Derived.Test.YtjkfgeigicljpaaGreatDoorPFnPagesNumberedx0
import Derived.Test.YtjkfgeigicljpaaGreatDoorPFnPagesNumberedx1
import Derived.Test.YtjkfgeigicljpaaGreatDoorPFnPagesNumberedx2
import Derived.Test.YtjkfgeigicljpaaGreatDoorPFnPagesNumberedx7
import Derived.Test.YtjkfgeigicljpaaGreatDoorPFnPagesNumberedx8
import Derived.Test.YtjkfgeigicljpaaGreatDoorPFnPagesNumberedx10
namespace Go.Proofs.YtjkfgeigicljpaaGreatDoor.PFnPagesNumbered
open Go.RowKit Go.Proofs.YtjkfgeigicljpaaGreatDoorW.PrintWords Go.Proofs.YtjkfgeigicljpaaGreatDoorW.PrintLast Go.Proofs.YtjkfgeigicljpaaGreatDoorW.PrintMore
attribute [local go_sem] max2_int min2_int max_two min_two max_three min_three max_four min_four
set_option linter.unusedVariables false
set_option linter.unusedSimpArgs false

/-! ### spec_l1Read: function 58 -/
mutual
def spec_l1Read.j0 : Nat → ByteArray → Bool → Option (Int)
 | 0, _, _ => none
 | k + 1, x0, x18 => if x18 = true then (some (-1)) else (spec_l1Read.l0 k x0 0 0)
def spec_l1Read.l0 : Nat → ByteArray → Int → Int → Option (Int)
 | 0, _, _, _ => none
 | k + 1, x0, x3, x4 => if x4 < (x0.size : Int) then (if 0 ≤ x4 then (if (bt x0 x4) < 48 then (some (-1)) else (if (bt x0 x4) > 57 then (some (-1)) else (spec_l1Read.l0 k x0 (wrap64 ((wrap64 (10 * x3)) + (((bt x0 x4) - 48) % 256))) (wrap64 (x4 + 1))))) else (none)) else (some x3)
end
def spec_l1Read.f (k : Nat) (a0 : ByteArray) : Option (Int) := (spec_l1In.f (a0.size : Int) 1 6).bind fun t371 => (if t371 = true then (if 0 < (a0.size : Int) then (if (bt a0 0) = 48 then (spec_l1Read.j0 k a0 (decide ((a0.size : Int) > 1))) else (spec_l1Read.j0 k a0 false)) else (none)) else (spec_l1Read.j0 k a0 true))
set_option maxHeartbeats 8000000 in
set_option maxRecDepth 100000 in
theorem spec_l1Read.calls (k : Nat) (a0 : ByteArray) (r : Int) (w : World) (h : spec_l1Read.f k a0 = some r) :
  Calls Tryz.prog 58 #[.string a0] w fun e w' => e = .returned (.int .i64 r) ∧ Drawn0 w w' := by
 have H := h
 unfold spec_l1Read.f at H
 clear h
 have HC2 := Aside0.mk H
 clear H
 go_enter Tryz.func58, Tryz.ntmps58
 go_upto_region 1 with (fail)
 go_cut [18] (fun v18 wc => ∃ (kq : Nat) (x18_1 : Bool), v18 = .bool x18_1 ∧ Aside0 (spec_l1Read.j0 kq a0 x18_1 = some r) ∧ Aside0 (kq ≤ k) ∧ Drawn0 w wc)
 case first =>
  have H := HC2.out
  clear HC2
  replace H := Xs.mp H
  obtain ⟨t371, A30, H⟩ := H
  (try dsimp only at H)
  have A3 := Aside0.mk A30
  clear A30
  by_cases c4 : t371 = true
  ·subst c4
   rw [if_pos rfl] at H
   by_cases c5 : 0 < (a0.size : Int)
   ·rw [if_pos c5] at H
    have c5b0 : decide (0 < (a0.size : Int)) = true := decide_eq_true c5
    have c5b1 : decide (0 < a0.size) = true := decide_eq_true (by omega)
    clear c5
    (first | rw [c5b0] | (simp only [i64_w, i32_w]; rw [c5b0]) | skip)
    by_cases c7 : (bt a0 0) = 48
    ·rw [if_pos c7] at H
     have c7b0 : ((bt a0 0) == 48) = true := beq_iff_eq.mpr c7
     have c7b1 : ((bt a0 0) != 48) = false := bne_eq_false_iff_eq.mpr c7
     clear c7
     have H' := Aside0.mk H
     clear H
     go_wp2_with (first | ((with_reducible refine gate_callee (f := 45) rfl ?_); refine goesL_ (some 7) rfl rfl Tryz.func45 (by kernel_rfl) rfl #[.int .i64 (a0.size : Int), .int .i64 1, .int .i64 6] rfl (by (try simp only [Xp, Xq, Xr]); first | done | rfl) ?_; (with_reducible refine (spec_l1In.calls (a0.size : Int) 1 6 true _ A3.out).mono ?_); rintro e w' ⟨rfl, ⟨nd, rfl⟩⟩; refine ⟨_, rfl, ?_⟩; have p6 : 0 ≤ (0 : Int) := (by omega); have q6 : 0 < a0.size := (by have : (0 : Int) < (a0.size : Int) := Xz (by first | (with_reducible assumption) | assumption); omega); have hx6 : ∀ h : 0 < a0.size, ((a0[0]'h).toNat : Int) = bt a0 0 := bt_at a0 0; clear p6; have qi6 : (0 < (a0.size : Int)) = True := eq_true (Xz (by first | (with_reducible assumption) | assumption)); replace q6 := eq_true q6))
     go_meet
     case rel => exact ⟨_, (decide ((a0.size : Int) > 1)), (by first | rfl | simp | simp [*]), H', ⟨by first | omega | exact Nat.le_refl _⟩, by repeat (first | exact Drawn0.refl _ | apply Drawn0.step)⟩
    ·rw [if_neg c7] at H
     have c7b0 : ((bt a0 0) == 48) = false := beq_eq_false_iff_ne.mpr c7
     have c7b1 : ((bt a0 0) != 48) = true := bne_iff_ne.mpr c7
     have H' := Aside0.mk H
     clear H
     go_wp2_with (first | ((with_reducible refine gate_callee (f := 45) rfl ?_); refine goesL_ (some 7) rfl rfl Tryz.func45 (by kernel_rfl) rfl #[.int .i64 (a0.size : Int), .int .i64 1, .int .i64 6] rfl (by (try simp only [Xp, Xq, Xr]); first | done | rfl) ?_; (with_reducible refine (spec_l1In.calls (a0.size : Int) 1 6 true _ A3.out).mono ?_); rintro e w' ⟨rfl, ⟨nd, rfl⟩⟩; refine ⟨_, rfl, ?_⟩; have p6 : 0 ≤ (0 : Int) := (by omega); have q6 : 0 < a0.size := (by have : (0 : Int) < (a0.size : Int) := Xz (by first | (with_reducible assumption) | assumption); omega); have hx6 : ∀ h : 0 < a0.size, ((a0[0]'h).toNat : Int) = bt a0 0 := bt_at a0 0; clear p6; have qi6 : (0 < (a0.size : Int)) = True := eq_true (Xz (by first | (with_reducible assumption) | assumption)); replace q6 := eq_true q6))
     go_meet
     case rel => exact ⟨_, (false), (by first | rfl | simp | simp [*]), H', ⟨by first | omega | exact Nat.le_refl _⟩, by repeat (first | exact Drawn0.refl _ | apply Drawn0.step)⟩
   ·rw [if_neg c5] at H
    exact absurd H (by simp)
  ·replace c4 := Bool.eq_false_iff.mpr c4
   subst c4
   rw [if_neg (show ¬ (false = true) by decide)] at H
   have H' := Aside0.mk H
   clear H
   go_wp2_with (first | ((with_reducible refine gate_callee (f := 45) rfl ?_); refine goesL_ (some 7) rfl rfl Tryz.func45 (by kernel_rfl) rfl #[.int .i64 (a0.size : Int), .int .i64 1, .int .i64 6] rfl (by (try simp only [Xp, Xq, Xr]); first | done | rfl) ?_; (with_reducible refine (spec_l1In.calls (a0.size : Int) 1 6 false _ A3.out).mono ?_); rintro e w' ⟨rfl, ⟨nd, rfl⟩⟩; refine ⟨_, rfl, ?_⟩))
   go_meet
   case rel => exact ⟨_, (true), (by first | rfl | simp | simp [*]), H', ⟨by first | omega | exact Nat.le_refl _⟩, by repeat (first | exact Drawn0.refl _ | apply Drawn0.step)⟩
 case rest =>
  clear HC2
  try clear p2; try clear c4; try clear c5; try clear c5b0; try clear c5b1; try clear p6; try clear q6; try clear hx6; try clear qi6; try clear c7; try clear c7b0; try clear c7b1; try clear p6; try clear q6
  obtain ⟨kq, x18_1, rfl, HA, HJ1, ⟨mc1, rfl⟩⟩ := hcut
  cases kq with
  | zero => exact absurd HA.out (by simp [spec_l1Read.j0])
  | succ kj1 =>
   have H := HA.out
   clear HA
   simp only [spec_l1Read.j0] at H
   by_cases c8 : x18_1 = true
   ·subst c8
    rw [if_pos rfl] at H
    obtain rfl := Option.some.inj H
    go_wp2
    go_ret
    exact ⟨by first | rfl | (simp; done) | (simp [*]; done), by repeat (first | exact Drawn0.refl _ | apply Drawn0.step)⟩
   ·replace c8 := Bool.eq_false_iff.mpr c8
    subst c8
    rw [if_neg (show ¬ (false = true) by decide)] at H
    have H' := Aside0.mk H
    clear H
    go_wp2
    go_loopg [3, 4] kj1 (fun kq v3 v4 w' => ∃ (x3_2 : Int) (x4_2 : Int), v3 = .int .i64 x3_2 ∧ v4 = .int .i64 x4_2 ∧ Aside0 (spec_l1Read.l0 kq a0 x3_2 x4_2 = some r) ∧ Aside0 (kq ≤ kj1) ∧ Drawn0 w w')
    case atStart => exact ⟨(0), (0), (by first | rfl | simp | simp [*]), (by first | rfl | simp | simp [*]), H', ⟨Nat.le_refl _⟩, by repeat (first | exact Drawn0.refl _ | apply Drawn0.step)⟩
    case round =>
     clear H'
     try clear c1; try clear p2; try clear c4; try clear c5; try clear c5b0; try clear c5b1; try clear p6; try clear q6; try clear hx6; try clear qi6; try clear c7; try clear c7b0; try clear c7b1; try clear c8; try clear p2; try clear p6; try clear q6
     obtain ⟨x3_2, x4_2, rfl, rfl, HA, HK2, ⟨m2, rfl⟩⟩ := hrel
     cases gk with
     | zero => exact absurd HA.out (by simp [spec_l1Read.l0])
     | succ k2 =>
      have H := HA.out
      clear HA
      simp only [spec_l1Read.l0] at H
      by_cases c9 : x4_2 < (a0.size : Int)
      ·rw [if_pos c9] at H
       have c9b0 : decide (x4_2 < (a0.size : Int)) = true := decide_eq_true c9
       clear c9
       by_cases c10 : 0 ≤ x4_2
       ·rw [if_pos c10] at H
        have c10b0 : decide (0 ≤ x4_2) = true := decide_eq_true c10
        clear c10
        by_cases c12 : (bt a0 x4_2) < 48
        ·rw [if_pos c12] at H
         have c12b0 : decide ((bt a0 x4_2) < 48) = true := decide_eq_true c12
         clear c12
         obtain rfl := Option.some.inj H
         have p11 : 0 ≤ (x4_2 : Int) := Xz (by first | (with_reducible assumption) | assumption)
         have q11 : x4_2 < (a0.size : Int) := Xz (by first | (with_reducible assumption) | assumption)
         have hx11 := bt_at a0 x4_2
         replace p11 := eq_true p11
         replace q11 := eq_true q11
         go_wp2
         go_ret
         exact ⟨by first | rfl | (simp; done) | (simp [*]; done), by repeat (first | exact Drawn0.refl _ | apply Drawn0.step)⟩
        ·rw [if_neg c12] at H
         have c12b0 : decide ((bt a0 x4_2) < 48) = false := decide_eq_false c12
         clear c12
         by_cases c14 : (bt a0 x4_2) > 57
         ·rw [if_pos c14] at H
          have c14b0 : decide (57 < (bt a0 x4_2)) = true := decide_eq_true c14
          clear c14
          obtain rfl := Option.some.inj H
          have p11 : 0 ≤ (x4_2 : Int) := Xz (by first | (with_reducible assumption) | assumption)
          have q11 : x4_2 < (a0.size : Int) := Xz (by first | (with_reducible assumption) | assumption)
          have hx11 := bt_at a0 x4_2
          replace p11 := eq_true p11
          replace q11 := eq_true q11
          have p13 : 0 ≤ (x4_2 : Int) := Xz (by first | (with_reducible assumption) | assumption)
          have q13 : x4_2 < (a0.size : Int) := Xz (by first | (with_reducible assumption) | assumption)
          have hx13 := bt_at a0 x4_2
          replace p13 := eq_true p13
          replace q13 := eq_true q13
          go_wp2
          go_ret
          exact ⟨by first | rfl | (simp; done) | (simp [*]; done), by repeat (first | exact Drawn0.refl _ | apply Drawn0.step)⟩
         ·rw [if_neg c14] at H
          have c14b0 : decide (57 < (bt a0 x4_2)) = false := decide_eq_false c14
          clear c14
          have H' := Aside0.mk H
          clear H
          have p11 : 0 ≤ (x4_2 : Int) := Xz (by first | (with_reducible assumption) | assumption)
          have q11 : x4_2 < (a0.size : Int) := Xz (by first | (with_reducible assumption) | assumption)
          have hx11 := bt_at a0 x4_2
          replace p11 := eq_true p11
          replace q11 := eq_true q11
          have p13 : 0 ≤ (x4_2 : Int) := Xz (by first | (with_reducible assumption) | assumption)
          have q13 : x4_2 < (a0.size : Int) := Xz (by first | (with_reducible assumption) | assumption)
          have hx13 := bt_at a0 x4_2
          replace p13 := eq_true p13
          replace q13 := eq_true q13
          have p15 : 0 ≤ (x4_2 : Int) := Xz (by first | (with_reducible assumption) | assumption)
          have q15 : x4_2 < (a0.size : Int) := Xz (by first | (with_reducible assumption) | assumption)
          have hx15 := bt_at a0 x4_2
          replace p15 := eq_true p15
          replace q15 := eq_true q15
          go_wp2
          go_roundg k2
          case measure => have := HJ1.out; have := HK2.out; omega
          case rel => exact ⟨(wrap64 ((wrap64 (10 * x3_2)) + (((bt a0 x4_2) - 48) % 256))), (wrap64 (x4_2 + 1)), (by first | rfl | simp | simp [*]), (by first | rfl | simp | simp [*]), H', ⟨by have := HJ1.out; have := HK2.out; omega⟩, by repeat (first | exact Drawn0.refl _ | apply Drawn0.step)⟩
       ·rw [if_neg c10] at H
        exact absurd H (by simp)
      ·rw [if_neg c9] at H
       have c9b0 : decide (x4_2 < (a0.size : Int)) = false := decide_eq_false c9
       clear c9
       obtain rfl := Option.some.inj H
       go_wp2
       go_ret
       exact ⟨by first | rfl | (simp; done) | (simp [*]; done), by repeat (first | exact Drawn0.refl _ | apply Drawn0.step)⟩

/-! ### spec_ParsePages: function 26 -/
mutual
def spec_ParsePages.l0 : Nat → ByteArray → List Int → List ByteArray → Int → Int → Option (List Int × Bool)
 | 0, _, _, _, _, _ => none
 | k + 1, x0, x4, x15, x16, x17 => if x17 < x16 then (if 0 ≤ x17 then (if x17 < (x15.length : Int) then ((spec_l1Split.f k (rdOf ByteArray.empty x15 x17) 45).bind fun t376 => (if 0 < (t376.length : Int) then ((spec_l1Read.f k (rdOf ByteArray.empty t376 0)).bind fun t380 => (if 0 ≤ (wrap64 ((t376.length : Int) - 1)) then (if (wrap64 ((t376.length : Int) - 1)) < (t376.length : Int) then ((spec_l1Read.f k (rdOf ByteArray.empty t376 (wrap64 ((t376.length : Int) - 1)))).bind fun t382 => (if (t376.length : Int) > 2 then (spec_ParsePages.j1 k x0 x4 t380 t382 x15 x16 x17 true) else ((spec_bpBook.f t380).bind fun t383 => (if t383 = true then ((spec_l1Least.f 2000 (wrap64 (t380 + 20))).bind fun t384 => ((spec_l1In.f t382 t380 t384).bind fun t385 => (spec_ParsePages.j1 k x0 x4 t380 t382 x15 x16 x17 (!t385)))) else (spec_ParsePages.j1 k x0 x4 t380 t382 x15 x16 x17 true))))) else (none)) else (none))) else (none))) else (none)) else (none)) else ((spec_bpList.f k x4).bind fun t389 => (if t389 = true then ((spec_bpText.f k x4).bind fun t390 => (if t390.toList = x0.toList then (some (x4, true)) else (some (([] : List Int), false)))) else (some (([] : List Int), false))))
def spec_ParsePages.j1 : Nat → ByteArray → List Int → Int → Int → List ByteArray → Int → Int → Bool → Option (List Int × Bool)
 | 0, _, _, _, _, _, _, _, _ => none
 | k + 1, x0, x4, x8, x9, x15, x16, x17, x50 => if x50 = true then (some (([] : List Int), false)) else (spec_ParsePages.l1 k x0 x4 x9 x8 x15 x16 x17)
def spec_ParsePages.l1 : Nat → ByteArray → List Int → Int → Int → List ByteArray → Int → Int → Option (List Int × Bool)
 | 0, _, _, _, _, _, _, _ => none
 | k + 1, x0, x4, x9, x10, x15, x16, x17 => if x10 ≤ x9 then (if x4.length < 17592186044416 then (spec_ParsePages.l1 k x0 (x4 ++ [x10]) x9 (wrap64 (x10 + 1)) x15 x16 x17) else (none)) else (spec_ParsePages.l0 k x0 x4 x15 x16 (wrap64 (x17 + 1)))
end
def spec_ParsePages.f (k : Nat) (a0 : ByteArray) : Option (List Int × Bool) := if (a0.size : Int) > 100 then (some (([] : List Int), false)) else ((spec_l1Split.f k a0 44).bind fun t372 => (spec_ParsePages.l0 k a0 ([] : List Int) t372 (t372.length : Int) 0))
set_option maxHeartbeats 8000000 in
set_option maxRecDepth 100000 in
theorem spec_ParsePages.calls (k : Nat) (a0 : ByteArray) (r1 : List Int) (r2 : Bool) (w : World) (h : spec_ParsePages.f k a0 = some (r1, r2)) :
  Calls Tryz.prog 26 #[.string a0] w fun e w' => ∃ v0_ : Value, e = .returned (.tuple #[v0_, .bool r2]) ∧ Kd.R (Kd.int .i64) 3 w' w.heap.size (fun _ => True) v0_ r1 ∧ Below w.heap.size w w' := by
 have HB := Aside0.mk (Below.refl w.heap.size w)
 have H := h
 unfold spec_ParsePages.f at H
 clear h
 by_cases c2 : (a0.size : Int) > 100
 ·rw [if_pos c2] at H
  have c2b0 : decide (100 < (a0.size : Int)) = true := decide_eq_true c2
  have c2b1 : decide (100 < a0.size) = true := decide_eq_true (by omega)
  clear c2
  simp only [Option.some.injEq, Prod.mk.injEq] at H
  obtain ⟨rfl, rfl⟩ := H
  go_enter Tryz.func26, Tryz.ntmps26
  go_wp2
  repeat (go_quiet (fail); try go_wp2)
  go_ret2
  exact ⟨_, by first | rfl | (simp [*, errW_none, errW_some] <;> rfl), by first | exact Kd.R_nil _ _ _ _ _ | exact Kd.N_nil _ _ _ _ _ | exact Kd.V_nil _ _ _ _ _ | exact Kd.Q_nil _ _ _ _ _ | exact Kd.S_nil _ _ _ _ _, by repeat (with_reducible first | exact HB.out | apply Xc | apply Xa | apply Xb)⟩
 ·rw [if_neg c2] at H
  have c2b0 : decide (100 < (a0.size : Int)) = false := decide_eq_false c2
  have c2b1 : decide (100 < a0.size) = false := decide_eq_false (by omega)
  clear c2
  replace H := Xs.mp H
  obtain ⟨t372, A30, H⟩ := H
  (try dsimp only at H)
  have A3 := Aside0.mk A30
  clear A30
  have H' := Aside0.mk H
  clear H
  go_enter Tryz.func26, Tryz.ntmps26
  go_wp2_with (first | (go_at_call 57; (with_reducible refine (spec_l1Split.calls k a0 44 t372 _ A3.out).mono ?_); rintro e w4 ⟨v373, rfl, ho0, hb⟩; replace HO374 := Aside0.mk (Kd.R_lower ho0 (Xf (by repeat (with_reducible first | exact HB.out | apply Xc | apply Xa | apply Xb)))); replace HB := Aside0.mk (Xd (by repeat (with_reducible first | exact HB.out | apply Xc | apply Xa | apply Xb)) hb); (try clear hb); (try clear ho0); obtain ⟨Ao5, co5, eo5⟩ := Kd.R_slice HO374.out; subst eo5))
  go_loopg [4, 17] k (fun kq v4 v17 w' => ∃ (x4_1 : List Int) (x17_1 : Int), v17 = .int .i64 x17_1 ∧ Aside0 (spec_ParsePages.l0 kq a0 x4_1 t372 (t372.length : Int) x17_1 = some (r1, r2)) ∧ Aside0 (kq ≤ k) ∧ Aside0 (Kd.R (Kd.int .i64) 3 w' w.heap.size (fun _ => True) v4 x4_1) ∧ Aside0 (Kd.R Kd.string 9 w' w.heap.size (fun _ => True) (.slice Ao5 t372.length co5) t372) ∧ Aside0 (Below w.heap.size w w'))
  case atStart => exact ⟨(([] : List Int)), (0), (by first | rfl | simp | simp [*]), H', ⟨Nat.le_refl _⟩, ⟨by first | exact Kd.R_nil _ _ _ _ _ | exact Kd.N_nil _ _ _ _ _ | exact Kd.V_nil _ _ _ _ _ | exact Kd.Q_nil _ _ _ _ _ | exact Kd.S_nil _ _ _ _ _⟩, ⟨by (with_reducible repeat (first | apply Xg | apply Xh | apply Xi)); exact HO374.out⟩, ⟨by repeat (with_reducible first | exact HB.out | apply Xc | apply Xa | apply Xb)⟩⟩
  case round =>
   clear H'
   try clear c2; try clear c2b0; try clear c2b1; try clear p2
   obtain ⟨x4_1, x17_1, rfl, HA, HK1, HO_4, HO_15, HB⟩ := hrel
   cases gk with
   | zero => exact absurd HA.out (by simp [spec_ParsePages.l0])
   | succ k1 =>
    have H := HA.out
    clear HA
    simp only [spec_ParsePages.l0] at H
    by_cases c6 : x17_1 < (t372.length : Int)
    ·rw [if_pos c6] at H
     have c6b0 : decide (x17_1 < (t372.length : Int)) = true := decide_eq_true c6
     clear c6
     by_cases c7 : 0 ≤ x17_1
     ·rw [if_pos c7] at H
      have c7b0 : decide (0 ≤ x17_1) = true := decide_eq_true c7
      clear c7
      by_cases c8 : x17_1 < (t372.length : Int)
      ·rw [if_pos c8] at H
       have c8b0 : decide (x17_1 < (t372.length : Int)) = true := decide_eq_true c8
       clear c8
       replace H := Xs.mp H
       obtain ⟨t376, A90, H⟩ := H
       (try dsimp only at H)
       have A9 := Aside0.mk A90
       clear A90
       by_cases c10 : 0 < (t376.length : Int)
       ·rw [if_pos c10] at H
        have c10b0 : decide (0 < (t376.length : Int)) = true := decide_eq_true c10
        have c10b1 : decide (0 < t376.length) = true := decide_eq_true (by omega)
        clear c10
        replace H := Xs.mp H
        obtain ⟨t380, A110, H⟩ := H
        (try dsimp only at H)
        have A11 := Aside0.mk A110
        clear A110
        obtain ⟨ji12, hji12⟩ : ∃ j_ : Int, (wrap64 ((t376.length : Int) - 1)) = j_ := ⟨_, rfl⟩
        replace H : (if 0 ≤ (ji12) then (if (ji12) < (t376.length : Int) then ((spec_l1Read.f k1 (rdOf ByteArray.empty t376 (ji12))).bind fun t382 => (if (t376.length : Int) > 2 then (spec_ParsePages.j1 k1 a0 x4_1 t380 t382 t372 (t372.length : Int) x17_1 true) else ((spec_bpBook.f t380).bind fun t383 => (if t383 = true then ((spec_l1Least.f 2000 (wrap64 (t380 + 20))).bind fun t384 => ((spec_l1In.f t382 t380 t384).bind fun t385 => (spec_ParsePages.j1 k1 a0 x4_1 t380 t382 t372 (t372.length : Int) x17_1 (!t385)))) else (spec_ParsePages.j1 k1 a0 x4_1 t380 t382 t372 (t372.length : Int) x17_1 true))))) else (none)) else (none)) = some (r1, r2) := by first | (rw [hji12] at H; exact H) | (simp only [hji12] at H ⊢; exact H)
        (try rw [hji12] at A9)
        (try rw [hji12] at A11)
        have hji12w : (IntKind.i64.wrap ((t376.length : Int) - 1)) = ji12 := (i64_w _).trans hji12
        by_cases c13 : 0 ≤ (ji12)
        ·rw [if_pos c13] at H
         have c13b0 : decide (0 ≤ (ji12)) = true := decide_eq_true c13
         clear c13
         by_cases c14 : (ji12) < (t376.length : Int)
         ·rw [if_pos c14] at H
          have c14b0 : decide ((ji12) < (t376.length : Int)) = true := decide_eq_true c14
          clear c14
          replace H := Xs.mp H
          obtain ⟨t382, A150, H⟩ := H
          (try dsimp only at H)
          have A15 := Aside0.mk A150
          clear A150
          have HC16 := Aside0.mk H
          clear H
          have p375 : 0 ≤ (x17_1 : Int) := Xz (by first | (with_reducible assumption) | assumption)
          have q375 : x17_1 < (t372.length : Int) := Xz (by first | (with_reducible assumption) | assumption)
          obtain ⟨ad375, e375, hx375_0⟩ := Kd.at_string (Kd.R_reads' HO_15.out).2.2 x17_1 p375 q375
          cases e375
          replace p375 := eq_true p375
          replace q375 := eq_true q375
          go_upto_region 9 with (first | (go_at_call 57; (with_reducible refine (spec_l1Split.calls k1 (rdOf ByteArray.empty t372 x17_1) 45 t376 _ A9.out).mono ?_); rintro e w17 ⟨v377, rfl, ho0, hb⟩; replace HO_4 := Aside0.mk (Xx (by (with_reducible repeat (first | apply Xg | apply Xh | apply Xi)); exact HO_4.out) hb); replace HO378 := Aside0.mk (Kd.R_lower (Kd.R_new' ho0 (Kd.R_lt (by (with_reducible repeat (first | apply Xg | apply Xh | apply Xi)); exact HO_15.out))) (Xf (by repeat (with_reducible first | exact HB.out | apply Xc | apply Xa | apply Xb)))); replace HO_15 := Aside0.mk (Xy (by (with_reducible repeat (first | apply Xg | apply Xh | apply Xi)); exact HO_15.out) (Kd.R_base ho0) hb); replace HB := Aside0.mk (Xd (by repeat (with_reducible first | exact HB.out | apply Xc | apply Xa | apply Xb)) hb); (try clear hb); (try clear ho0); obtain ⟨Ao18, co18, eo18⟩ := Kd.R_slice HO378.out; subst eo18; have p379 : 0 ≤ (0 : Int) := (by omega); have q379 : 0 < (t376.length : Int) := Xz (by first | (with_reducible assumption) | assumption); obtain ⟨ad379, e379, hx379_0⟩ := Kd.at_string (Kd.R_reads' HO378.out).2.2 0 p379 q379; cases e379; have qi379 : (0 < t376.length) = True := eq_true (by omega); (try rw [show ((0 : Int)).toNat = 0 from rfl] at hx379_0); (try rw [Addr.add_zero'] at hx379_0); replace p379 := eq_true p379; replace q379 := eq_true q379) | (go_at_call 58; (with_reducible refine (spec_l1Read.calls k1 (rdOf ByteArray.empty t376 0) t380 _ A11.out).mono ?_); rintro e w' ⟨rfl, ⟨nd, rfl⟩⟩; (try first | exact ⟨rfl, _, World.drewN_drewN _ _ _⟩ | exact ⟨rfl, _, Eq.trans (World.drewN_drewN _ _ _) (congrArg (World.drewN _) (Nat.add_assoc _ _ _))⟩); have p381 : 0 ≤ ((ji12) : Int) := Xz (by first | (with_reducible assumption) | assumption); have q381 : (ji12) < (t376.length : Int) := Xz (by first | (with_reducible assumption) | assumption); obtain ⟨ad381, e381, hx381_0⟩ := Kd.at_string (Kd.R_reads' HO378.out).2.2 (ji12) p381 q381; obtain rfl : ad379 = ad381 := (by injection e381); replace p381 := eq_true p381; replace q381 := eq_true q381) | (go_at_call 58; (with_reducible refine (spec_l1Read.calls k1 (rdOf ByteArray.empty t376 (ji12)) t382 _ A15.out).mono ?_); rintro e w' ⟨rfl, ⟨nd, rfl⟩⟩; (try first | exact ⟨rfl, _, World.drewN_drewN _ _ _⟩ | exact ⟨rfl, _, Eq.trans (World.drewN_drewN _ _ _) (congrArg (World.drewN _) (Nat.add_assoc _ _ _))⟩)))
          repeat (go_quiet (first | (go_at_call 57; (with_reducible refine (spec_l1Split.calls k1 (rdOf ByteArray.empty t372 x17_1) 45 t376 _ A9.out).mono ?_); rintro e w17 ⟨v377, rfl, ho0, hb⟩; replace HO_4 := Aside0.mk (Xx (by (with_reducible repeat (first | apply Xg | apply Xh | apply Xi)); exact HO_4.out) hb); replace HO378 := Aside0.mk (Kd.R_lower (Kd.R_new' ho0 (Kd.R_lt (by (with_reducible repeat (first | apply Xg | apply Xh | apply Xi)); exact HO_15.out))) (Xf (by repeat (with_reducible first | exact HB.out | apply Xc | apply Xa | apply Xb)))); replace HO_15 := Aside0.mk (Xy (by (with_reducible repeat (first | apply Xg | apply Xh | apply Xi)); exact HO_15.out) (Kd.R_base ho0) hb); replace HB := Aside0.mk (Xd (by repeat (with_reducible first | exact HB.out | apply Xc | apply Xa | apply Xb)) hb); (try clear hb); (try clear ho0); obtain ⟨Ao18, co18, eo18⟩ := Kd.R_slice HO378.out; subst eo18; have p379 : 0 ≤ (0 : Int) := (by omega); have q379 : 0 < (t376.length : Int) := Xz (by first | (with_reducible assumption) | assumption); obtain ⟨ad379, e379, hx379_0⟩ := Kd.at_string (Kd.R_reads' HO378.out).2.2 0 p379 q379; cases e379; have qi379 : (0 < t376.length) = True := eq_true (by omega); (try rw [show ((0 : Int)).toNat = 0 from rfl] at hx379_0); (try rw [Addr.add_zero'] at hx379_0); replace p379 := eq_true p379; replace q379 := eq_true q379) | (go_at_call 58; (with_reducible refine (spec_l1Read.calls k1 (rdOf ByteArray.empty t376 0) t380 _ A11.out).mono ?_); rintro e w' ⟨rfl, ⟨nd, rfl⟩⟩; (try first | exact ⟨rfl, _, World.drewN_drewN _ _ _⟩ | exact ⟨rfl, _, Eq.trans (World.drewN_drewN _ _ _) (congrArg (World.drewN _) (Nat.add_assoc _ _ _))⟩); have p381 : 0 ≤ ((ji12) : Int) := Xz (by first | (with_reducible assumption) | assumption); have q381 : (ji12) < (t376.length : Int) := Xz (by first | (with_reducible assumption) | assumption); obtain ⟨ad381, e381, hx381_0⟩ := Kd.at_string (Kd.R_reads' HO378.out).2.2 (ji12) p381 q381; obtain rfl : ad379 = ad381 := (by injection e381); replace p381 := eq_true p381; replace q381 := eq_true q381) | (go_at_call 58; (with_reducible refine (spec_l1Read.calls k1 (rdOf ByteArray.empty t376 (ji12)) t382 _ A15.out).mono ?_); rintro e w' ⟨rfl, ⟨nd, rfl⟩⟩; (try first | exact ⟨rfl, _, World.drewN_drewN _ _ _⟩ | exact ⟨rfl, _, Eq.trans (World.drewN_drewN _ _ _) (congrArg (World.drewN _) (Nat.add_assoc _ _ _))⟩))); go_upto_region 9 with (first | (go_at_call 57; (with_reducible refine (spec_l1Split.calls k1 (rdOf ByteArray.empty t372 x17_1) 45 t376 _ A9.out).mono ?_); rintro e w17 ⟨v377, rfl, ho0, hb⟩; replace HO_4 := Aside0.mk (Xx (by (with_reducible repeat (first | apply Xg | apply Xh | apply Xi)); exact HO_4.out) hb); replace HO378 := Aside0.mk (Kd.R_lower (Kd.R_new' ho0 (Kd.R_lt (by (with_reducible repeat (first | apply Xg | apply Xh | apply Xi)); exact HO_15.out))) (Xf (by repeat (with_reducible first | exact HB.out | apply Xc | apply Xa | apply Xb)))); replace HO_15 := Aside0.mk (Xy (by (with_reducible repeat (first | apply Xg | apply Xh | apply Xi)); exact HO_15.out) (Kd.R_base ho0) hb); replace HB := Aside0.mk (Xd (by repeat (with_reducible first | exact HB.out | apply Xc | apply Xa | apply Xb)) hb); (try clear hb); (try clear ho0); obtain ⟨Ao18, co18, eo18⟩ := Kd.R_slice HO378.out; subst eo18; have p379 : 0 ≤ (0 : Int) := (by omega); have q379 : 0 < (t376.length : Int) := Xz (by first | (with_reducible assumption) | assumption); obtain ⟨ad379, e379, hx379_0⟩ := Kd.at_string (Kd.R_reads' HO378.out).2.2 0 p379 q379; cases e379; have qi379 : (0 < t376.length) = True := eq_true (by omega); (try rw [show ((0 : Int)).toNat = 0 from rfl] at hx379_0); (try rw [Addr.add_zero'] at hx379_0); replace p379 := eq_true p379; replace q379 := eq_true q379) | (go_at_call 58; (with_reducible refine (spec_l1Read.calls k1 (rdOf ByteArray.empty t376 0) t380 _ A11.out).mono ?_); rintro e w' ⟨rfl, ⟨nd, rfl⟩⟩; (try first | exact ⟨rfl, _, World.drewN_drewN _ _ _⟩ | exact ⟨rfl, _, Eq.trans (World.drewN_drewN _ _ _) (congrArg (World.drewN _) (Nat.add_assoc _ _ _))⟩); have p381 : 0 ≤ ((ji12) : Int) := Xz (by first | (with_reducible assumption) | assumption); have q381 : (ji12) < (t376.length : Int) := Xz (by first | (with_reducible assumption) | assumption); obtain ⟨ad381, e381, hx381_0⟩ := Kd.at_string (Kd.R_reads' HO378.out).2.2 (ji12) p381 q381; obtain rfl : ad379 = ad381 := (by injection e381); replace p381 := eq_true p381; replace q381 := eq_true q381) | (go_at_call 58; (with_reducible refine (spec_l1Read.calls k1 (rdOf ByteArray.empty t376 (ji12)) t382 _ A15.out).mono ?_); rintro e w' ⟨rfl, ⟨nd, rfl⟩⟩; (try first | exact ⟨rfl, _, World.drewN_drewN _ _ _⟩ | exact ⟨rfl, _, Eq.trans (World.drewN_drewN _ _ _) (congrArg (World.drewN _) (Nat.add_assoc _ _ _))⟩))))
          (try simp only [Act.put, Xm, Xn, Xo])
          go_cut [50] (fun v50 wc => ∃ (kq : Nat) (x50_15 : Bool), v50 = .bool x50_15 ∧ Aside0 (spec_ParsePages.j1 kq a0 x4_1 t380 t382 t372 (t372.length : Int) x17_1 x50_15 = some (r1, r2)) ∧ Aside0 (kq ≤ k1) ∧ Aside0 (Kd.R (Kd.int .i64) 3 wc w.heap.size (fun _ => True) u4 x4_1) ∧ Aside0 (Kd.R Kd.string 9 wc w.heap.size (fun _ => True) (.slice (some ad375) t372.length co5) t372) ∧ Aside0 (Below w.heap.size w wc))
          case first =>
           have H := HC16.out
           clear HC16
           by_cases c19 : (t376.length : Int) > 2
           ·rw [if_pos c19] at H
            have c19b0 : decide (2 < (t376.length : Int)) = true := decide_eq_true c19
            have c19b1 : decide (2 < t376.length) = true := decide_eq_true (by omega)
            clear c19
            (first | rw [c19b0] | (simp only [i64_w, i32_w]; rw [c19b0]) | skip)
            have H' := Aside0.mk H
            clear H
            go_wp2
            repeat (go_quiet (fail); try go_wp2)
            go_meet
            case rel => exact ⟨_, (true), (by first | rfl | simp | simp [*]), H', ⟨by have := HK1.out; first | omega | exact Nat.le_refl _⟩, ⟨by (with_reducible repeat (first | apply Xg | apply Xh | apply Xi)); exact HO_4.out⟩, ⟨by (with_reducible repeat (first | apply Xg | apply Xh | apply Xi)); exact Kd.R_mono HO_15.out (fun _ hk => trivial)⟩, ⟨by repeat (with_reducible first | exact HB.out | apply Xc | apply Xa | apply Xb)⟩⟩
           ·rw [if_neg c19] at H
            have c19b0 : decide (2 < (t376.length : Int)) = false := decide_eq_false c19
            have c19b1 : decide (2 < t376.length) = false := decide_eq_false (by omega)
            clear c19
            (first | rw [c19b0] | (simp only [i64_w, i32_w]; rw [c19b0]) | skip)
            replace H := Xs.mp H
            obtain ⟨t383, A200, H⟩ := H
            (try dsimp only at H)
            have A20 := Aside0.mk A200
            clear A200
            by_cases c21 : t383 = true
            ·subst c21
             rw [if_pos rfl] at H
             replace H := Xs.mp H
             obtain ⟨t384, A220, H⟩ := H
             (try dsimp only at H)
             have A22 := Aside0.mk A220
             clear A220
             replace H := Xs.mp H
             obtain ⟨t385, A230, H⟩ := H
             (try dsimp only at H)
             have A23 := Aside0.mk A230
             clear A230
             have H' := Aside0.mk H
             clear H
             go_wp2_with (first | (go_at_call 39; (with_reducible refine (spec_bpBook.calls t380 true _ A20.out).mono ?_); rintro e w' ⟨rfl, ⟨nd, rfl⟩⟩; (try first | exact ⟨rfl, _, World.drewN_drewN _ _ _⟩ | exact ⟨rfl, _, Eq.trans (World.drewN_drewN _ _ _) (congrArg (World.drewN _) (Nat.add_assoc _ _ _))⟩)) | (go_at_call 37; (with_reducible refine (spec_l1Least.calls 2000 (wrap64 (t380 + 20)) t384 _ A22.out).mono ?_); rintro e w' ⟨rfl, ⟨nd, rfl⟩⟩; (try first | exact ⟨rfl, _, World.drewN_drewN _ _ _⟩ | exact ⟨rfl, _, Eq.trans (World.drewN_drewN _ _ _) (congrArg (World.drewN _) (Nat.add_assoc _ _ _))⟩)) | (go_at_call 45; (with_reducible refine (spec_l1In.calls t382 t380 t384 t385 _ A23.out).mono ?_); rintro e w' ⟨rfl, ⟨nd, rfl⟩⟩; (try first | exact ⟨rfl, _, World.drewN_drewN _ _ _⟩ | exact ⟨rfl, _, Eq.trans (World.drewN_drewN _ _ _) (congrArg (World.drewN _) (Nat.add_assoc _ _ _))⟩)))
             go_meet
             case rel => exact ⟨_, (!t385), (by first | rfl | simp | simp [*]), H', ⟨by have := HK1.out; first | omega | exact Nat.le_refl _⟩, ⟨by (with_reducible repeat (first | apply Xg | apply Xh | apply Xi)); exact HO_4.out⟩, ⟨by (with_reducible repeat (first | apply Xg | apply Xh | apply Xi)); exact Kd.R_mono HO_15.out (fun _ hk => trivial)⟩, ⟨by repeat (with_reducible first | exact HB.out | apply Xc | apply Xa | apply Xb)⟩⟩
            ·replace c21 := Bool.eq_false_iff.mpr c21
             subst c21
             rw [if_neg (show ¬ (false = true) by decide)] at H
             have H' := Aside0.mk H
             clear H
             go_wp2_with (first | (go_at_call 39; (with_reducible refine (spec_bpBook.calls t380 false _ A20.out).mono ?_); rintro e w' ⟨rfl, ⟨nd, rfl⟩⟩; (try first | exact ⟨rfl, _, World.drewN_drewN _ _ _⟩ | exact ⟨rfl, _, Eq.trans (World.drewN_drewN _ _ _) (congrArg (World.drewN _) (Nat.add_assoc _ _ _))⟩)))
             go_meet
             case rel => exact ⟨_, (true), (by first | rfl | simp | simp [*]), H', ⟨by have := HK1.out; first | omega | exact Nat.le_refl _⟩, ⟨by (with_reducible repeat (first | apply Xg | apply Xh | apply Xi)); exact HO_4.out⟩, ⟨by (with_reducible repeat (first | apply Xg | apply Xh | apply Xi)); exact Kd.R_mono HO_15.out (fun _ hk => trivial)⟩, ⟨by repeat (with_reducible first | exact HB.out | apply Xc | apply Xa | apply Xb)⟩⟩
          case rest =>
           clear HC16
           try clear c1; try clear c2; try clear c2b0; try clear c2b1; try clear p2; try clear p3; try clear q3; try clear hx3; try clear qi3; try clear c6; try clear c6b0; try clear p6; try clear c7; try clear c7b0; try clear c8; try clear c8b0; try clear c10; try clear c10b0; try clear c10b1; try clear c13; try clear c13b0; try clear c14; try clear c14b0; try clear c19; try clear c19b0; try clear c19b1; try clear c21; try clear hx375_0; try clear hx379_0; try clear hx381_0; try clear p2; try clear p375; try clear p379; try clear p381; try clear q375; try clear q379; try clear q381
           obtain ⟨kq, x50_15, rfl, HA, HJ15, HO_4, HO_15, HB⟩ := hcut
           cases kq with
           | zero => exact absurd HA.out (by simp [spec_ParsePages.j1])
           | succ kj15 =>
            have H := HA.out
            clear HA
            simp only [spec_ParsePages.j1] at H
            by_cases c24 : x50_15 = true
            ·subst c24
             rw [if_pos rfl] at H
             simp only [Option.some.injEq, Prod.mk.injEq] at H
             obtain ⟨rfl, rfl⟩ := H
             go_wp2
             repeat (go_quiet (fail); try go_wp2)
             go_ret2
             exact ⟨_, by first | rfl | (simp [errW_none, errW_some] <;> rfl) | (simp only [← hji12]; first | rfl | (simp [errW_none, errW_some] <;> rfl)) | (simp [*, errW_none, errW_some] <;> rfl), by first | exact Kd.R_nil _ _ _ _ _ | exact Kd.N_nil _ _ _ _ _ | exact Kd.V_nil _ _ _ _ _ | exact Kd.Q_nil _ _ _ _ _ | exact Kd.S_nil _ _ _ _ _, by repeat (with_reducible first | exact HB.out | apply Xc | apply Xa | apply Xb)⟩
            ·replace c24 := Bool.eq_false_iff.mpr c24
             subst c24
             rw [if_neg (show ¬ (false = true) by decide)] at H
             have H' := Aside0.mk H
             clear H
             go_wp2
             repeat (go_quiet (fail); try go_wp2)
             go_loopg [4, 10] kj15 (fun kq v4 v10 w' => ∃ (x4_3 : List Int) (x10_3 : Int), v10 = .int .i64 x10_3 ∧ Aside0 (spec_ParsePages.l1 kq a0 x4_3 t382 x10_3 t372 (t372.length : Int) x17_1 = some (r1, r2)) ∧ Aside0 (kq ≤ kj15) ∧ Aside0 (Kd.R (Kd.int .i64) 3 w' w.heap.size (fun _ => True) v4 x4_3) ∧ Aside0 (Kd.R Kd.string 9 w' w.heap.size (fun _ => True) (.slice (some ad375) t372.length co5) t372) ∧ Aside0 (Below w.heap.size w w'))
             case atStart => exact ⟨(x4_1), (t380), (by first | rfl | simp | simp [*]), H', ⟨Nat.le_refl _⟩, ⟨by (with_reducible repeat (first | apply Xg | apply Xh | apply Xi)); exact HO_4.out⟩, ⟨by (with_reducible repeat (first | apply Xg | apply Xh | apply Xi)); exact HO_15.out⟩, ⟨by repeat (with_reducible first | exact HB.out | apply Xc | apply Xa | apply Xb)⟩⟩
             case round =>
              clear H'
              try clear c1; try clear c2; try clear c2b0; try clear c2b1; try clear p2; try clear p3; try clear q3; try clear hx3; try clear qi3; try clear c6; try clear c6b0; try clear p6; try clear c7; try clear c7b0; try clear c8; try clear c8b0; try clear c10; try clear c10b0; try clear c10b1; try clear c13; try clear c13b0; try clear c14; try clear c14b0; try clear c19; try clear c19b0; try clear c19b1; try clear c21; try clear c24; try clear hx375_0; try clear hx379_0; try clear hx381_0; try clear p2; try clear p3; try clear p375; try clear p379; try clear p381; try clear p6; try clear q3; try clear q375; try clear q379; try clear q381
              obtain ⟨x4_3, x10_3, rfl, HA, HK3, HO_4, HO_15, HB⟩ := hrel
              cases gk with
              | zero => exact absurd HA.out (by simp [spec_ParsePages.l1])
              | succ k3 =>
               have H := HA.out
               clear HA
               simp only [spec_ParsePages.l1] at H
               by_cases c25 : x10_3 ≤ t382
               ·rw [if_pos c25] at H
                have c25b0 : decide (x10_3 ≤ t382) = true := decide_eq_true c25
                clear c25
                by_cases c26 : x4_3.length < 17592186044416
                ·rw [if_pos c26] at H
                 have LMc26 := Aside0.mk c26
                 clear c26
                 obtain ⟨y386, hy386⟩ : ∃ y_ : List Int, y_ = (x4_3 ++ [x10_3]) := ⟨_, rfl⟩
                 replace H : (spec_ParsePages.l1 k3 a0 y386 t382 (wrap64 (x10_3 + 1)) t372 (t372.length : Int) x17_1) = some (r1, r2) := by first | (rw [hy386]; with_reducible exact H) | (have H2_ := (Option.bind_some _ _).symm.trans H; rw [hy386]; with_reducible exact H2_) | (have H2_ := (Option.bind_some _ _).symm.trans H; with_reducible exact H2_) | with_reducible exact H | (rw [hy386]; exact H) | exact H
                 have Ny386 := Aside0.mk hy386
                 clear hy386
                 have H' := Aside0.mk H
                 clear H
                 go_wp2_with (first | ((with_reducible refine gate_builtin (b := .append) (xs := #[.tmp 57, .tmp 59]) rfl ?_); at_builtin; refine Kd.R_append (Kd.int .i64) (w0 := w) w.heap.size rfl (.tmp 57) (.tmp 59) 32 3 (.int .i64 0) 8 rfl Tryz.underlying32 info3 rfl (by decide) (by omega) u4 x4_3 x10_3 [.int .i64 x10_3] (fun _ => True) (fun _ => False) rfl rfl ?aP (fun _ hk => hk.elim) ?aF ?aO ?aB ?aS ?aL ?_; (case aP => exact rfl); (case aB => exact (by repeat (with_reducible first | exact HB.out | apply Xc | apply Xa | apply Xb))); (case aF => exact (fun _ _ => trivial)); (case aO => exact (by (with_reducible repeat (first | apply Xg | apply Xh | apply Xi)); exact HO_4.out)); (case aS => exact (Xf (by repeat (with_reducible first | exact HB.out | apply Xc | apply Xa | apply Xb)))); (case aL => have := LMc26.out; omega); intro v387 w27 ho hb hg hat; rw [← Ny386.out] at ho; replace HO_15 := Aside0.mk (Kd.R_over' (by (with_reducible repeat (first | apply Xg | apply Xh | apply Xi)); exact HO_15.out) (Kd.R_typed (by (with_reducible repeat (first | apply Xg | apply Xh | apply Xi)); exact HO_4.out)) (by decide) hg); replace HB := Aside0.mk (hb); replace HO388 := Aside0.mk (ho); clear ho hb hg hat))
                 go_roundg k3
                 case measure => have := HK1.out; have := HJ15.out; have := HK3.out; omega
                 case rel => exact ⟨(y386), (wrap64 (x10_3 + 1)), (by first | rfl | simp | simp [*]), H', ⟨by have := HK1.out; have := HJ15.out; have := HK3.out; omega⟩, ⟨by (with_reducible repeat (first | apply Xg | apply Xh | apply Xi)); exact HO388.out⟩, ⟨by (with_reducible repeat (first | apply Xg | apply Xh | apply Xi)); exact HO_15.out⟩, ⟨by repeat (with_reducible first | exact HB.out | apply Xc | apply Xa | apply Xb)⟩⟩
                ·rw [if_neg c26] at H
                 exact absurd H (by simp)
               ·rw [if_neg c25] at H
                have c25b0 : decide (x10_3 ≤ t382) = false := decide_eq_false c25
                clear c25
                have H' := Aside0.mk H
                clear H
                go_wp2
                repeat (go_quiet (fail); try go_wp2)
                go_roundg k3
                case measure => have := HK1.out; have := HJ15.out; have := HK3.out; omega
                case rel => exact ⟨(x4_3), (wrap64 (x17_1 + 1)), (by first | rfl | simp | simp [*]), H', ⟨by have := HK1.out; have := HJ15.out; have := HK3.out; omega⟩, ⟨by (with_reducible repeat (first | apply Xg | apply Xh | apply Xi)); exact HO_4.out⟩, ⟨by (with_reducible repeat (first | apply Xg | apply Xh | apply Xi)); exact HO_15.out⟩, ⟨by repeat (with_reducible first | exact HB.out | apply Xc | apply Xa | apply Xb)⟩⟩
         ·rw [if_neg c14] at H
          exact absurd H (by simp)
        ·rw [if_neg c13] at H
         exact absurd H (by simp)
       ·rw [if_neg c10] at H
        exact absurd H (by simp)
      ·rw [if_neg c8] at H
       exact absurd H (by simp)
     ·rw [if_neg c7] at H
      exact absurd H (by simp)
    ·rw [if_neg c6] at H
     have c6b0 : decide (x17_1 < (t372.length : Int)) = false := decide_eq_false c6
     clear c6
     replace H := Xs.mp H
     obtain ⟨t389, A280, H⟩ := H
     (try dsimp only at H)
     have A28 := Aside0.mk A280
     clear A280
     by_cases c29 : t389 = true
     ·subst c29
      rw [if_pos rfl] at H
      replace H := Xs.mp H
      obtain ⟨t390, A300, H⟩ := H
      (try dsimp only at H)
      have A30 := Aside0.mk A300
      clear A300
      by_cases c31 : t390.toList = a0.toList
      ·rw [if_pos c31] at H
       have c31b0 : (t390.toList == a0.toList) = true := beq_iff_eq.mpr c31
       have c31b1 : (t390.toList != a0.toList) = false := bne_eq_false_iff_eq.mpr c31
       clear c31
       simp only [Option.some.injEq, Prod.mk.injEq] at H
       obtain ⟨rfl, rfl⟩ := H
       obtain ⟨Ao32, co32, eo32⟩ := Kd.R_slice HO_4.out
       subst eo32
       go_wp2_with (first | (go_at_call 51; (with_reducible refine (spec_bpList.calls k1 _ _ x4_1 true _ ?side1 ?side2 A28.out).mono ?_); (case side1 => repeat (first | exact (Kd.R_reads' HO_4.out).2.2 | (with_reducible refine Xj ?_ _) | (with_reducible refine Xk ?_ _) | (with_reducible refine Xl ?_))); (case side2 => exact (Kd.R_reads' HO_4.out).2.1); rintro e w' ⟨rfl, ⟨nd, rfl⟩⟩; (try first | exact ⟨rfl, _, World.drewN_drewN _ _ _⟩ | exact ⟨rfl, _, Eq.trans (World.drewN_drewN _ _ _) (congrArg (World.drewN _) (Nat.add_assoc _ _ _))⟩)) | (go_at_call 52; (with_reducible refine (spec_bpText.calls k1 _ _ x4_1 t390 _ ?side1 ?side2 A30.out).mono ?_); (case side1 => repeat (first | exact (Kd.R_reads' HO_4.out).2.2 | (with_reducible refine Xj ?_ _) | (with_reducible refine Xk ?_ _) | (with_reducible refine Xl ?_))); (case side2 => exact (Kd.R_reads' HO_4.out).2.1); rintro e w33 ⟨rfl, hb⟩; replace HO_4 := Aside0.mk (Xx (by (with_reducible repeat (first | apply Xg | apply Xh | apply Xi)); exact HO_4.out) hb); replace HO_15 := Aside0.mk (Xx (by (with_reducible repeat (first | apply Xg | apply Xh | apply Xi)); exact HO_15.out) hb); replace HB := Aside0.mk (Xd (by repeat (with_reducible first | exact HB.out | apply Xc | apply Xa | apply Xb)) hb); (try clear hb)))
       go_ret2
       exact ⟨_, by first | rfl | (simp [*, errW_none, errW_some] <;> rfl), by (with_reducible repeat (first | apply Xg | apply Xh | apply Xi)); exact HO_4.out, by repeat (with_reducible first | exact HB.out | apply Xc | apply Xa | apply Xb)⟩
      ·rw [if_neg c31] at H
       have c31b0 : (t390.toList == a0.toList) = false := beq_eq_false_iff_ne.mpr c31
       have c31b1 : (t390.toList != a0.toList) = true := bne_iff_ne.mpr c31
       simp only [Option.some.injEq, Prod.mk.injEq] at H
       obtain ⟨rfl, rfl⟩ := H
       obtain ⟨Ao34, co34, eo34⟩ := Kd.R_slice HO_4.out
       subst eo34
       go_wp2_with (first | (go_at_call 51; (with_reducible refine (spec_bpList.calls k1 _ _ x4_1 true _ ?side1 ?side2 A28.out).mono ?_); (case side1 => repeat (first | exact (Kd.R_reads' HO_4.out).2.2 | (with_reducible refine Xj ?_ _) | (with_reducible refine Xk ?_ _) | (with_reducible refine Xl ?_))); (case side2 => exact (Kd.R_reads' HO_4.out).2.1); rintro e w' ⟨rfl, ⟨nd, rfl⟩⟩; (try first | exact ⟨rfl, _, World.drewN_drewN _ _ _⟩ | exact ⟨rfl, _, Eq.trans (World.drewN_drewN _ _ _) (congrArg (World.drewN _) (Nat.add_assoc _ _ _))⟩)) | (go_at_call 52; (with_reducible refine (spec_bpText.calls k1 _ _ x4_1 t390 _ ?side1 ?side2 A30.out).mono ?_); (case side1 => repeat (first | exact (Kd.R_reads' HO_4.out).2.2 | (with_reducible refine Xj ?_ _) | (with_reducible refine Xk ?_ _) | (with_reducible refine Xl ?_))); (case side2 => exact (Kd.R_reads' HO_4.out).2.1); rintro e w35 ⟨rfl, hb⟩; replace HO_4 := Aside0.mk (Xx (by (with_reducible repeat (first | apply Xg | apply Xh | apply Xi)); exact HO_4.out) hb); replace HO_15 := Aside0.mk (Xx (by (with_reducible repeat (first | apply Xg | apply Xh | apply Xi)); exact HO_15.out) hb); replace HB := Aside0.mk (Xd (by repeat (with_reducible first | exact HB.out | apply Xc | apply Xa | apply Xb)) hb); (try clear hb)))
       go_ret2
       exact ⟨_, by first | rfl | (simp [*, errW_none, errW_some] <;> rfl), by first | exact Kd.R_nil _ _ _ _ _ | exact Kd.N_nil _ _ _ _ _ | exact Kd.V_nil _ _ _ _ _ | exact Kd.Q_nil _ _ _ _ _ | exact Kd.S_nil _ _ _ _ _, by repeat (with_reducible first | exact HB.out | apply Xc | apply Xa | apply Xb)⟩
     ·replace c29 := Bool.eq_false_iff.mpr c29
      subst c29
      rw [if_neg (show ¬ (false = true) by decide)] at H
      simp only [Option.some.injEq, Prod.mk.injEq] at H
      obtain ⟨rfl, rfl⟩ := H
      obtain ⟨Ao36, co36, eo36⟩ := Kd.R_slice HO_4.out
      subst eo36
      go_wp2_with (first | (go_at_call 51; (with_reducible refine (spec_bpList.calls k1 _ _ x4_1 false _ ?side1 ?side2 A28.out).mono ?_); (case side1 => repeat (first | exact (Kd.R_reads' HO_4.out).2.2 | (with_reducible refine Xj ?_ _) | (with_reducible refine Xk ?_ _) | (with_reducible refine Xl ?_))); (case side2 => exact (Kd.R_reads' HO_4.out).2.1); rintro e w' ⟨rfl, ⟨nd, rfl⟩⟩; (try first | exact ⟨rfl, _, World.drewN_drewN _ _ _⟩ | exact ⟨rfl, _, Eq.trans (World.drewN_drewN _ _ _) (congrArg (World.drewN _) (Nat.add_assoc _ _ _))⟩)))
      go_ret2
      exact ⟨_, by first | rfl | (simp [*, errW_none, errW_some] <;> rfl), by first | exact Kd.R_nil _ _ _ _ _ | exact Kd.N_nil _ _ _ _ _ | exact Kd.V_nil _ _ _ _ _ | exact Kd.Q_nil _ _ _ _ _ | exact Kd.S_nil _ _ _ _ _, by repeat (with_reducible first | exact HB.out | apply Xc | apply Xa | apply Xb)⟩

end Go.Proofs.YtjkfgeigicljpaaGreatDoor.PFnPagesNumbered
