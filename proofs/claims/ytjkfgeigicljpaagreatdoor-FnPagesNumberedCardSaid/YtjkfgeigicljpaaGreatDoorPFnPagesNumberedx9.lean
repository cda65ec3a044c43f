-- WRITTEN BY A PROGRAM OF THIS SESSION (xprint), out of the translation: not trusted: it is checked as any text
import Derived.Test.YtjkfgeigicljpaaGreatDoorPFnPagesNumberedx0
import Derived.Test.YtjkfgeigicljpaaGreatDoorPFnPagesNumberedx1
import Derived.Test.YtjkfgeigicljpaaGreatDoorPFnPagesNumberedx3
import Derived.Test.YtjkfgeigicljpaaGreatDoorPFnPagesNumberedx4
import Derived.Test.YtjkfgeigicljpaaGreatDoorPFnPagesNumberedx7
import Derived.Test.YtjkfgeigicljpaaGreatDoorPFnPagesNumberedx8
namespace Go.Proofs.YtjkfgeigicljpaaGreatDoor.PFnPagesNumbered
open Go.RowKit Go.Proofs.YtjkfgeigicljpaaGreatDoorW.PrintWords Go.Proofs.YtjkfgeigicljpaaGreatDoorW.PrintLast Go.Proofs.YtjkfgeigicljpaaGreatDoorW.PrintMore
attribute [local go_sem] max2_int min2_int max_two min_two max_three min_three max_four min_four
set_option linter.unusedVariables false
set_option linter.unusedSimpArgs false

/-! ### spec_PagesText: function 23 -/
def spec_PagesText.f (k : Nat) (l0 : List Int) : Option (ByteArray × Bool) := (spec_bpList.f k l0).bind fun t316 => (if t316 = true then ((spec_bpText.f k l0).bind fun t317 => (some (t317, true))) else (some ((⟨#[]⟩ : ByteArray), false)))
set_option maxHeartbeats 8000000 in
set_option maxRecDepth 100000 in
theorem spec_PagesText.calls (k : Nat) (A0 : Option Addr) (c0 : Nat) (l0 : List Int) (r1 : ByteArray) (r2 : Bool) (w : World) (hr0 : Kd.C (Kd.int .i64) w A0 l0.length l0) (hc0 : l0.length ≤ c0) (h : spec_PagesText.f k l0 = some (r1, r2)) :
  Calls Tryz.prog 23 #[.slice A0 l0.length c0] w fun e w' => e = .returned (.tuple #[.string r1, .bool r2]) ∧ Below w.heap.size w w' := by
 have HR0 := Aside0.mk hr0
 have HC0 := Aside0.mk hc0
 clear hr0 hc0
 have HB := Aside0.mk (Below.refl w.heap.size w)
 have H := h
 unfold spec_PagesText.f at H
 clear h
 replace H := Xs.mp H
 obtain ⟨t316, A20, H⟩ := H
 (try dsimp only at H)
 have A2 := Aside0.mk A20
 clear A20
 by_cases c3 : t316 = true
 ·subst c3
  rw [if_pos rfl] at H
  replace H := Xs.mp H
  obtain ⟨t317, A40, H⟩ := H
  (try dsimp only at H)
  have A4 := Aside0.mk A40
  clear A40
  simp only [Option.some.injEq, Prod.mk.injEq] at H
  obtain ⟨rfl, rfl⟩ := H
  go_enter Tryz.func23, Tryz.ntmps23
  go_wp2_with (first | ((with_reducible refine gate_callee (f := 51) rfl ?_); refine goesL_ (some 5) rfl rfl Tryz.func51 (by kernel_rfl) rfl #[.slice A0 l0.length c0] rfl (by (try simp only [Xp, Xq, Xr]); first | done | rfl) ?_; (with_reducible refine (spec_bpList.calls k _ _ l0 true _ ?side1 ?side2 A2.out).mono ?_); (case side1 => repeat (first | exact HR0.out | (with_reducible refine Xj ?_ _) | (with_reducible refine Xk ?_ _) | (with_reducible refine Xl ?_))); (case side2 => exact HC0.out); rintro e w' ⟨rfl, ⟨nd, rfl⟩⟩; refine ⟨_, rfl, ?_⟩) | ((with_reducible refine gate_callee (f := 52) rfl ?_); refine goesL_ (some 8) rfl rfl Tryz.func52 (by kernel_rfl) rfl #[.slice A0 l0.length c0] rfl (by (try simp only [Xp, Xq, Xr]); first | done | rfl) ?_; (with_reducible refine (spec_bpText.calls k _ _ l0 t317 _ ?side1 ?side2 A4.out).mono ?_); (case side1 => repeat (first | exact HR0.out | (with_reducible refine Xj ?_ _) | (with_reducible refine Xk ?_ _) | (with_reducible refine Xl ?_))); (case side2 => exact HC0.out); rintro e w5 ⟨rfl, hb⟩; refine ⟨_, rfl, ?_⟩; replace HB := Aside0.mk (Xd (by repeat (with_reducible first | exact HB.out | apply Xc | apply Xa | apply Xb)) hb); (try clear hb)))
  go_ret2
  exact ⟨by first | rfl | (simp [*, errW_none, errW_some] <;> rfl), by repeat (with_reducible first | exact HB.out | apply Xc | apply Xa | apply Xb)⟩
 ·replace c3 := Bool.eq_false_iff.mpr c3
  subst c3
  rw [if_neg (show ¬ (false = true) by decide)] at H
  simp only [Option.some.injEq, Prod.mk.injEq] at H
  obtain ⟨rfl, rfl⟩ := H
  go_enter Tryz.func23, Tryz.ntmps23
  go_wp2_with (first | ((with_reducible refine gate_callee (f := 51) rfl ?_); refine goesL_ (some 5) rfl rfl Tryz.func51 (by kernel_rfl) rfl #[.slice A0 l0.length c0] rfl (by (try simp only [Xp, Xq, Xr]); first | done | rfl) ?_; (with_reducible refine (spec_bpList.calls k _ _ l0 false _ ?side1 ?side2 A2.out).mono ?_); (case side1 => repeat (first | exact HR0.out | (with_reducible refine Xj ?_ _) | (with_reducible refine Xk ?_ _) | (with_reducible refine Xl ?_))); (case side2 => exact HC0.out); rintro e w' ⟨rfl, ⟨nd, rfl⟩⟩; refine ⟨_, rfl, ?_⟩))
  go_ret2
  exact ⟨by first | rfl | (simp [*, errW_none, errW_some] <;> rfl), by repeat (with_reducible first | exact HB.out | apply Xc | apply Xa | apply Xb)⟩

/-! ### spec_l1Cur_spoilt: function 53 -/
mutual
def spec_l1Cur_spoilt.l0 : Nat → ByteArray → ByteArray → Int → List Int → Int → Int → Option (ByteArray × Int × Int)
 | 0, _, _, _, _, _, _ => none
 | k + 1, x1, x2, x7, x1000, x1001, x1002 => if x7 > 0 then (spec_l1Cur_spoilt.j1 k x1 x2 x7 (decide ((x1.size : Int) > 0)) x1000 x1001 x1002) else (spec_l1Cur_spoilt.j1 k x1 x2 x7 false x1000 x1001 x1002)
def spec_l1Cur_spoilt.j1 : Nat → ByteArray → ByteArray → Int → Bool → List Int → Int → Int → Option (ByteArray × Int × Int)
 | 0, _, _, _, _, _, _, _ => none
 | k + 1, x1, x2, x7, x19, x1000, x1001, x1002 => if x19 = true then ((spec_l1Cur_pick.f x1000 x1001 x1002 (x1.size : Int)).bind fun bt321 => ((spec_l1Cur_pick.f x1000 bt321.2.1 bt321.2.2 (x2.size : Int)).bind fun bt324 => (if 0 ≤ bt324.1 then (if bt324.1 < (x2.size : Int) then ((some (([bt x2 bt324.1] : List Int) : List Int)).bind fun y327 => ((spec_l1Cur_pick.f x1000 bt324.2.1 bt324.2.2 3).bind fun bt330 => (if bt330.1 = 0 then (if 0 ≤ bt321.1 then (if bt321.1 ≤ (x1.size : Int) then (if (x1.extract 0 (bt321.1 : Int).toNat).size + (strOfNums y327).size ≤ 9223372036854775807 then (if ((x1.extract 0 (bt321.1 : Int).toNat) ++ (strOfNums y327)).size + (x1.extract (bt321.1 : Int).toNat x1.size).size ≤ 9223372036854775807 then (spec_l1Cur_spoilt.l0 k (((x1.extract 0 (bt321.1 : Int).toNat) ++ (strOfNums y327)) ++ (x1.extract (bt321.1 : Int).toNat x1.size)) x2 (wrap64 (x7 - 1)) x1000 bt330.2.1 bt330.2.2) else (none)) else (none)) else (none)) else (none)) else (if bt330.1 = 1 then (if 0 ≤ bt321.1 then (if bt321.1 ≤ (x1.size : Int) then (if (x1.extract 0 (bt321.1 : Int).toNat).size + (strOfNums y327).size ≤ 9223372036854775807 then (if 0 ≤ (wrap64 (bt321.1 + 1)) then (if (wrap64 (bt321.1 + 1)) ≤ (x1.size : Int) then (if ((x1.extract 0 (bt321.1 : Int).toNat) ++ (strOfNums y327)).size + (x1.extract ((wrap64 (bt321.1 + 1)) : Int).toNat x1.size).size ≤ 9223372036854775807 then (spec_l1Cur_spoilt.l0 k (((x1.extract 0 (bt321.1 : Int).toNat) ++ (strOfNums y327)) ++ (x1.extract ((wrap64 (bt321.1 + 1)) : Int).toNat x1.size)) x2 (wrap64 (x7 - 1)) x1000 bt330.2.1 bt330.2.2) else (none)) else (none)) else (none)) else (none)) else (none)) else (none)) else (if 0 ≤ bt321.1 then (if bt321.1 ≤ (x1.size : Int) then (if 0 ≤ (wrap64 (bt321.1 + 1)) then (if (wrap64 (bt321.1 + 1)) ≤ (x1.size : Int) then (if (x1.extract 0 (bt321.1 : Int).toNat).size + (x1.extract ((wrap64 (bt321.1 + 1)) : Int).toNat x1.size).size ≤ 9223372036854775807 then (spec_l1Cur_spoilt.l0 k ((x1.extract 0 (bt321.1 : Int).toNat) ++ (x1.extract ((wrap64 (bt321.1 + 1)) : Int).toNat x1.size)) x2 (wrap64 (x7 - 1)) x1000 bt330.2.1 bt330.2.2) else (none)) else (none)) else (none)) else (none)) else (none)))))) else (none)) else (none)))) else (some (x1, x1001, x1002))
end
def spec_l1Cur_spoilt.f (k : Nat) (s0_0 : List Int) (s0_1 : Int) (s0_2 : Int) (a1 : ByteArray) (a2 : ByteArray) : Option (ByteArray × Int × Int) := (spec_l1Cur_pick.f s0_0 s0_1 s0_2 2).bind fun bt318 => (spec_l1Cur_spoilt.l0 k a1 a2 (wrap64 (1 + bt318.1)) s0_0 bt318.2.1 bt318.2.2)
set_option maxHeartbeats 8000000 in
set_option maxRecDepth 100000 in
theorem spec_l1Cur_spoilt.calls (k : Nat) (g : Nat) (s0_0 : List Int) (s0_1 : Int) (s0_2 : Int) (a1 : ByteArray) (a2 : ByteArray) (r1 : ByteArray) (r2 : Int) (r3 : Int) (w0 w : World) (hI : IsS45 w0 w g s0_0 s0_1 s0_2) (hB : Below w0.heap.size w0 w) (h : spec_l1Cur_spoilt.f k s0_0 s0_1 s0_2 a1 a2 = some (r1, r2, r3)) :
  Calls Tryz.prog 53 #[.pointer (some ⟨g, 0, none⟩), .string a1, .string a2] w fun e w' => e = .returned (.string r1) ∧ IsS45 w0 w' g s0_0 r2 r3 ∧ Below w0.heap.size w0 w' ∧ KeepBut w w' g none := by
 have HI0 := Aside0.mk hI
 have HK := Aside0.mk (KeepBut.refl w g none)
 have HL := Aside0.mk hB.size
 clear hI
 have HW0 := Aside0.mk hB.size
 have HB := Aside0.mk hB
 clear hB
 have H := h
 unfold spec_l1Cur_spoilt.f at H
 clear h
 replace H := Xs.mp H
 obtain ⟨⟨t318, t319, t320⟩, A40, H⟩ := H
 (try dsimp only at H)
 have A4 := Aside0.mk A40
 clear A40
 have H' := Aside0.mk H
 clear H
 go_enter Tryz.func53, Tryz.ntmps53
 go_wp2_with (first | (go_at_call 31; (with_reducible refine (spec_l1Cur_pick.calls g s0_0 s0_1 s0_2 2 t318 t319 t320 w0 _ ?side1 ?side2 A4.out).mono ?_); (case side1 => repeat (with_reducible first | exact HI0.out | apply IsS45.alloc | apply IsS45.drewN | apply IsS45.drew | apply IsS45.set_1 | apply IsS45.set_2)); (case side2 => repeat (first | (with_reducible first | exact HB.out | apply Xc | apply Xa | apply Xb | refine Xe ?_ (IsS45.ge HI0.out)) | exact HB.out)); rintro e w5 ⟨rfl, hi, hb, hk⟩; replace HK := Aside0.mk (KeepBut.trans (by repeat (with_reducible first | exact HK.out | apply Xu | apply Xv | apply keep_drew | apply Xw)) hk (.inl rfl)); replace HB := Aside0.mk (hb); replace HI0 := Aside0.mk (hi); (try clear hb hk hi)))
 go_loopg [1, 7] k (fun kq v1 v7 w' => ∃ (x1_1 : ByteArray) (x7_1 : Int) (x1001_1 : Int) (x1002_1 : Int), v1 = .string x1_1 ∧ v7 = .int .i64 x7_1 ∧ Aside0 (spec_l1Cur_spoilt.l0 kq x1_1 a2 x7_1 s0_0 x1001_1 x1002_1 = some (r1, r2, r3)) ∧ Aside0 (kq ≤ k) ∧ Aside0 (IsS45 w0 w' g s0_0 x1001_1 x1002_1) ∧ Aside0 (KeepBut w w' g none) ∧ Aside0 (Below w0.heap.size w0 w'))
 case atStart => exact ⟨(a1), (wrap64 (1 + t318)), (t319), (t320), (by first | rfl | simp | simp [*]), (by first | rfl | simp | simp [*]), H', ⟨Nat.le_refl _⟩, ⟨by repeat (with_reducible first | exact HI0.out | apply IsS45.alloc | apply IsS45.drewN | apply IsS45.drew | apply IsS45.set_1 | apply IsS45.set_2)⟩, ⟨by repeat (with_reducible first | exact HK.out | apply Xu | apply Xv | apply keep_drew | apply Xw)⟩, ⟨by repeat (first | (with_reducible first | exact HB.out | apply Xc | apply Xa | apply Xb | refine Xe ?_ (IsS45.ge HI0.out)) | exact HB.out)⟩⟩
 case round =>
  clear H'
  try clear p2; try clear c5
  obtain ⟨x1_1, x7_1, x1001_1, x1002_1, rfl, rfl, HA, HK1, HI0, HK, HB⟩ := hrel
  cases gk with
  | zero => exact absurd HA.out (by simp [spec_l1Cur_spoilt.l0])
  | succ k1 =>
   have H := HA.out
   clear HA
   simp only [spec_l1Cur_spoilt.l0] at H
   have HC6 := Aside0.mk H
   clear H
   go_upto_region 2 with (fail)
   repeat (go_quiet (fail); go_upto_region 2 with (fail))
   go_cut [19] (fun v19 wc => ∃ (kq : Nat) (x19_5 : Bool), v19 = .bool x19_5 ∧ Aside0 (spec_l1Cur_spoilt.j1 kq x1_1 a2 x7_1 x19_5 s0_0 x1001_1 x1002_1 = some (r1, r2, r3)) ∧ Aside0 (kq ≤ k1) ∧ Aside0 (IsS45 w0 wc g s0_0 x1001_1 x1002_1) ∧ Aside0 (KeepBut w wc g none) ∧ Aside0 (Below w0.heap.size w0 wc))
   case first =>
    have H := HC6.out
    clear HC6
    by_cases c7 : x7_1 > 0
    ·rw [if_pos c7] at H
     have c7b0 : decide (0 < x7_1) = true := decide_eq_true c7
     clear c7
     (first | rw [c7b0] | (simp only [i64_w, i32_w]; rw [c7b0]) | skip)
     have H' := Aside0.mk H
     clear H
     go_wp2
     repeat (go_quiet (fail); try go_wp2)
     go_meet
     case rel => exact ⟨_, (decide ((x1_1.size : Int) > 0)), (by first | rfl | simp | simp [*]), H', ⟨by have := HK1.out; first | omega | exact Nat.le_refl _⟩, ⟨by repeat (with_reducible first | exact HI0.out | apply IsS45.alloc | apply IsS45.drewN | apply IsS45.drew | apply IsS45.set_1 | apply IsS45.set_2)⟩, ⟨by repeat (with_reducible first | exact HK.out | apply Xu | apply Xv | apply keep_drew | apply Xw)⟩, ⟨by repeat (first | (with_reducible first | exact HB.out | apply Xc | apply Xa | apply Xb | refine Xe ?_ (IsS45.ge HI0.out)) | exact HB.out)⟩⟩
    ·rw [if_neg c7] at H
     have c7b0 : decide (0 < x7_1) = false := decide_eq_false c7
     clear c7
     (first | rw [c7b0] | (simp only [i64_w, i32_w]; rw [c7b0]) | skip)
     have H' := Aside0.mk H
     clear H
     go_wp2
     repeat (go_quiet (fail); try go_wp2)
     go_meet
     case rel => exact ⟨_, (false), (by first | rfl | simp | simp [*]), H', ⟨by have := HK1.out; first | omega | exact Nat.le_refl _⟩, ⟨by repeat (with_reducible first | exact HI0.out | apply IsS45.alloc | apply IsS45.drewN | apply IsS45.drew | apply IsS45.set_1 | apply IsS45.set_2)⟩, ⟨by repeat (with_reducible first | exact HK.out | apply Xu | apply Xv | apply keep_drew | apply Xw)⟩, ⟨by repeat (first | (with_reducible first | exact HB.out | apply Xc | apply Xa | apply Xb | refine Xe ?_ (IsS45.ge HI0.out)) | exact HB.out)⟩⟩
   case rest =>
    clear HC6
    try clear p2; try clear c5; try clear p6; try clear c7; try clear c7b0; try clear p2
    obtain ⟨kq, x19_5, rfl, HA, HJ5, HI0, HK, HB⟩ := hcut
    cases kq with
    | zero => exact absurd HA.out (by simp [spec_l1Cur_spoilt.j1])
    | succ kj5 =>
     have H := HA.out
     clear HA
     simp only [spec_l1Cur_spoilt.j1] at H
     by_cases c8 : x19_5 = true
     ·subst c8
      rw [if_pos rfl] at H
      replace H := Xs.mp H
      obtain ⟨⟨t321, t322, t323⟩, A90, H⟩ := H
      (try dsimp only at H)
      have A9 := Aside0.mk A90
      clear A90
      replace H := Xs.mp H
      obtain ⟨⟨t324, t325, t326⟩, A100, H⟩ := H
      (try dsimp only at H)
      have A10 := Aside0.mk A100
      clear A100
      by_cases c11 : 0 ≤ t324
      ·rw [if_pos c11] at H
       have c11b0 : decide (0 ≤ t324) = true := decide_eq_true c11
       clear c11
       by_cases c12 : t324 < (a2.size : Int)
       ·rw [if_pos c12] at H
        have c12b0 : decide (t324 < (a2.size : Int)) = true := decide_eq_true c12
        clear c12
        obtain ⟨y327, hy327⟩ : ∃ y_ : List Int, y_ = (([bt a2 t324] : List Int)) := ⟨_, rfl⟩
        replace H : ((spec_l1Cur_pick.f s0_0 t325 t326 3).bind fun bt330 => (if bt330.1 = 0 then (if 0 ≤ t321 then (if t321 ≤ (x1_1.size : Int) then (if (x1_1.extract 0 (t321 : Int).toNat).size + (strOfNums y327).size ≤ 9223372036854775807 then (if ((x1_1.extract 0 (t321 : Int).toNat) ++ (strOfNums y327)).size + (x1_1.extract (t321 : Int).toNat x1_1.size).size ≤ 9223372036854775807 then (spec_l1Cur_spoilt.l0 kj5 (((x1_1.extract 0 (t321 : Int).toNat) ++ (strOfNums y327)) ++ (x1_1.extract (t321 : Int).toNat x1_1.size)) a2 (wrap64 (x7_1 - 1)) s0_0 bt330.2.1 bt330.2.2) else (none)) else (none)) else (none)) else (none)) else (if bt330.1 = 1 then (if 0 ≤ t321 then (if t321 ≤ (x1_1.size : Int) then (if (x1_1.extract 0 (t321 : Int).toNat).size + (strOfNums y327).size ≤ 9223372036854775807 then (if 0 ≤ (wrap64 (t321 + 1)) then (if (wrap64 (t321 + 1)) ≤ (x1_1.size : Int) then (if ((x1_1.extract 0 (t321 : Int).toNat) ++ (strOfNums y327)).size + (x1_1.extract ((wrap64 (t321 + 1)) : Int).toNat x1_1.size).size ≤ 9223372036854775807 then (spec_l1Cur_spoilt.l0 kj5 (((x1_1.extract 0 (t321 : Int).toNat) ++ (strOfNums y327)) ++ (x1_1.extract ((wrap64 (t321 + 1)) : Int).toNat x1_1.size)) a2 (wrap64 (x7_1 - 1)) s0_0 bt330.2.1 bt330.2.2) else (none)) else (none)) else (none)) else (none)) else (none)) else (none)) else (if 0 ≤ t321 then (if t321 ≤ (x1_1.size : Int) then (if 0 ≤ (wrap64 (t321 + 1)) then (if (wrap64 (t321 + 1)) ≤ (x1_1.size : Int) then (if (x1_1.extract 0 (t321 : Int).toNat).size + (x1_1.extract ((wrap64 (t321 + 1)) : Int).toNat x1_1.size).size ≤ 9223372036854775807 then (spec_l1Cur_spoilt.l0 kj5 ((x1_1.extract 0 (t321 : Int).toNat) ++ (x1_1.extract ((wrap64 (t321 + 1)) : Int).toNat x1_1.size)) a2 (wrap64 (x7_1 - 1)) s0_0 bt330.2.1 bt330.2.2) else (none)) else (none)) else (none)) else (none)) else (none))))) = some (r1, r2, r3) := by first | (rw [hy327]; with_reducible exact H) | (have H2_ := (Option.bind_some _ _).symm.trans H; rw [hy327]; with_reducible exact H2_) | (have H2_ := (Option.bind_some _ _).symm.trans H; with_reducible exact H2_) | with_reducible exact H | (rw [hy327]; exact H) | exact H
        have Ny327 := Aside0.mk hy327
        clear hy327
        replace H := Xs.mp H
        obtain ⟨⟨t330, t331, t332⟩, A140, H⟩ := H
        (try dsimp only at H)
        have A14 := Aside0.mk A140
        clear A140
        by_cases c15 : t330 = 0
        ·rw [if_pos c15] at H
         have c15b0 : (t330 == 0) = true := beq_iff_eq.mpr c15
         have c15b1 : (t330 != 0) = false := bne_eq_false_iff_eq.mpr c15
         clear c15
         by_cases c16 : 0 ≤ t321
         ·rw [if_pos c16] at H
          have c16b0 := eq_true c16
          have c16b1 : decide (0 ≤ t321) = true := decide_eq_true c16
          clear c16
          by_cases c17 : t321 ≤ (x1_1.size : Int)
          ·rw [if_pos c17] at H
           have c17b0 := eq_true c17
           have c17b1 : decide (t321 ≤ (x1_1.size : Int)) = true := decide_eq_true c17
           clear c17
           by_cases c18 : (x1_1.extract 0 (t321 : Int).toNat).size + (strOfNums y327).size ≤ 9223372036854775807
           ·rw [if_pos c18] at H
            have c18b0 := eq_true c18
            have c18b1 : decide ((x1_1.extract 0 (t321 : Int).toNat).size + (strOfNums y327).size ≤ 9223372036854775807) = true := decide_eq_true c18
            try have c18b2 : (9223372036854775807 < (x1_1.extract 0 (t321 : Int).toNat).size + (strOfNums y327).size) = False := eq_false (Nat.not_lt.2 c18)
            have c19b0 := eq_true (Xz (by first | (with_reducible assumption) | assumption) : 0 ≤ t321)
            have c20b0 := eq_true (Xz (by first | (with_reducible assumption) | assumption) : t321 ≤ (x1_1.size : Int))
            by_cases c21 : ((x1_1.extract 0 (t321 : Int).toNat) ++ (strOfNums y327)).size + (x1_1.extract (t321 : Int).toNat x1_1.size).size ≤ 9223372036854775807
            ·rw [if_pos c21] at H
             have c21b0 := eq_true c21
             have c21b1 : decide (((x1_1.extract 0 (t321 : Int).toNat) ++ (strOfNums y327)).size + (x1_1.extract (t321 : Int).toNat x1_1.size).size ≤ 9223372036854775807) = true := decide_eq_true c21
             try have c21b2 : (9223372036854775807 < ((x1_1.extract 0 (t321 : Int).toNat) ++ (strOfNums y327)).size + (x1_1.extract (t321 : Int).toNat x1_1.size).size) = False := eq_false (Nat.not_lt.2 c21)
             try have c21b4 : (9223372036854775807 < x1_1.extract 0 (t321 : Int).toNat.size + strOfNums y327.size + x1_1.extract (t321 : Int).toNat x1_1.size.size) = False := eq_false (by have q_ := Nat.not_lt.2 c21; simp only [ByteArray.size_append] at q_; exact q_)
             have H' := Aside0.mk H
             clear H
             go_wp2_with (first | (go_at_call 31; (with_reducible refine (spec_l1Cur_pick.calls g s0_0 x1001_1 x1002_1 (x1_1.size : Int) t321 t322 t323 w0 _ ?side1 ?side2 A9.out).mono ?_); (case side1 => repeat (with_reducible first | exact HI0.out | apply IsS45.alloc | apply IsS45.drewN | apply IsS45.drew | apply IsS45.set_1 | apply IsS45.set_2)); (case side2 => repeat (first | (with_reducible first | exact HB.out | apply Xc | apply Xa | apply Xb | refine Xe ?_ (IsS45.ge HI0.out)) | exact HB.out)); rintro e w22 ⟨rfl, hi, hb, hk⟩; replace HK := Aside0.mk (KeepBut.trans (by repeat (with_reducible first | exact HK.out | apply Xu | apply Xv | apply keep_drew | apply Xw)) hk (.inl rfl)); replace HB := Aside0.mk (hb); replace HI0 := Aside0.mk (hi); (try clear hb hk hi)) | (go_at_call 31; (with_reducible refine (spec_l1Cur_pick.calls g s0_0 t322 t323 (a2.size : Int) t324 t325 t326 w0 _ ?side1 ?side2 A10.out).mono ?_); (case side1 => repeat (with_reducible first | exact HI0.out | apply IsS45.alloc | apply IsS45.drewN | apply IsS45.drew | apply IsS45.set_1 | apply IsS45.set_2)); (case side2 => repeat (first | (with_reducible first | exact HB.out | apply Xc | apply Xa | apply Xb | refine Xe ?_ (IsS45.ge HI0.out)) | exact HB.out)); rintro e w23 ⟨rfl, hi, hb, hk⟩; replace HK := Aside0.mk (KeepBut.trans (by repeat (with_reducible first | exact HK.out | apply Xu | apply Xv | apply keep_drew | apply Xw)) hk (.inl rfl)); replace HB := Aside0.mk (hb); replace HI0 := Aside0.mk (hi); (try clear hb hk hi); have p13 : 0 ≤ (t324 : Int) := Xz (by first | (with_reducible assumption) | assumption); have q13 : t324 < (a2.size : Int) := Xz (by first | (with_reducible assumption) | assumption); have hx13 := bt_at a2 t324; replace p13 := eq_true p13; replace q13 := eq_true q13) | ((with_reducible refine gate_dst (N := 32) rfl ?_); (try (refine gate_guard (by rfl) ?_; dsimp only)); refine Kd.R_lit (Kd.int .u8) _ 5 ?hg (N := 32) ?hd (xs := ([bt a2 t324] : List Int)) (inner := [.int .u8 (bt a2 t324)]) (ok := fun _ => True) (okp := fun _ => True) ?hr ?hp (fun _ hk => hk) trivial (Below.refl _ _) (Nat.le_refl _) (by simp) ?_; (case hd => rfl); (case hg => rfl); (case hr => first | (go_simp; done) | (go_simp; rfl)); (case hp => exact (Reps.one (show Kd.M (Kd.int .u8) _ _ _ (bt a2 t324) [.int .u8 (bt a2 t324)] from rfl) (Reps.none _ _))); intro v328 w24 ho25 hb hg_ hnew_; clear hg_ hnew_; (first | rw [← Ny327.out] at ho25 | (simp only [Int.reduceToNat] at ho25; rw [← Ny327.out] at ho25)); replace HO329 := Aside0.mk (Kd.R_lower ho25 (keep_size (w := w) (g := g) (row := none) (by repeat (with_reducible first | exact HK.out | apply Xu | apply Xv | apply keep_drew | apply Xw)))); replace HK := Aside0.mk (KeepBut.trans (by repeat (with_reducible first | exact HK.out | apply Xu | apply Xv | apply keep_drew | apply Xw)) (KeepBut.of_below hb g none) (.inl rfl)); replace HB := Aside0.mk (Xd (by repeat (first | (with_reducible first | exact HB.out | apply Xc | apply Xa | apply Xb | refine Xe ?_ (IsS45.ge HI0.out)) | exact HB.out)) hb); replace HI0 := Aside0.mk (IsS45.below (by repeat (with_reducible first | exact HI0.out | apply IsS45.alloc | apply IsS45.drewN | apply IsS45.drew | apply IsS45.set_1 | apply IsS45.set_2)) hb); clear hb ho25; have hcv26 := own_string (P := Tryz.prog) Tryz.underlying22 Tryz.underlying5 Tryz.underlying9 (Kd.own_of_R HO329.out)) | (go_at_call 31; (with_reducible refine (spec_l1Cur_pick.calls g s0_0 t325 t326 3 t330 t331 t332 w0 _ ?side1 ?side2 A14.out).mono ?_); (case side1 => repeat (with_reducible first | exact HI0.out | apply IsS45.alloc | apply IsS45.drewN | apply IsS45.drew | apply IsS45.set_1 | apply IsS45.set_2)); (case side2 => repeat (first | (with_reducible first | exact HB.out | apply Xc | apply Xa | apply Xb | refine Xe ?_ (IsS45.ge HI0.out)) | exact HB.out)); rintro e w27 ⟨rfl, hi, hb, hk⟩; replace HO329 := Aside0.mk (Kd.R_mono (Kd.R_keep (IsS45.apart (show IsS45 w0 _ g s0_0 t325 t326 from by repeat (with_reducible first | exact HI0.out | apply IsS45.alloc | apply IsS45.drewN | apply IsS45.drew | apply IsS45.set_1 | apply IsS45.set_2)) (by (with_reducible repeat (first | apply Xg | apply Xh | apply Xi)); exact HO329.out) (by decide)) hk (fun _ h => h.2)) (fun _ h => h.1)); replace HK := Aside0.mk (KeepBut.trans (by repeat (with_reducible first | exact HK.out | apply Xu | apply Xv | apply keep_drew | apply Xw)) hk (.inl rfl)); replace HB := Aside0.mk (hb); replace HI0 := Aside0.mk (hi); (try clear hb hk hi)))
             go_quiet (fail); try go_wp2
             go_roundg kj5
             case measure => have := HK1.out; have := HJ5.out; omega
             case rel => exact ⟨(((x1_1.extract 0 (t321 : Int).toNat) ++ (strOfNums y327)) ++ (x1_1.extract (t321 : Int).toNat x1_1.size)), (wrap64 (x7_1 - 1)), (t331), (t332), (by first | rfl | simp | simp [*]), (by first | rfl | simp | simp [*]), H', ⟨by have := HK1.out; have := HJ5.out; omega⟩, ⟨by repeat (with_reducible first | exact HI0.out | apply IsS45.alloc | apply IsS45.drewN | apply IsS45.drew | apply IsS45.set_1 | apply IsS45.set_2)⟩, ⟨by repeat (with_reducible first | exact HK.out | apply Xu | apply Xv | apply keep_drew | apply Xw)⟩, ⟨by repeat (first | (with_reducible first | exact HB.out | apply Xc | apply Xa | apply Xb | refine Xe ?_ (IsS45.ge HI0.out)) | exact HB.out)⟩⟩
            ·rw [if_neg c21] at H
             exact absurd H (by simp)
           ·rw [if_neg c18] at H
            exact absurd H (by simp)
          ·rw [if_neg c17] at H
           exact absurd H (by simp)
         ·rw [if_neg c16] at H
          exact absurd H (by simp)
        ·rw [if_neg c15] at H
         have c15b0 : (t330 == 0) = false := beq_eq_false_iff_ne.mpr c15
         have c15b1 : (t330 != 0) = true := bne_iff_ne.mpr c15
         by_cases c28 : t330 = 1
         ·rw [if_pos c28] at H
          have c28b0 : (t330 == 1) = true := beq_iff_eq.mpr c28
          have c28b1 : (t330 != 1) = false := bne_eq_false_iff_eq.mpr c28
          clear c28
          by_cases c29 : 0 ≤ t321
          ·rw [if_pos c29] at H
           have c29b0 := eq_true c29
           have c29b1 : decide (0 ≤ t321) = true := decide_eq_true c29
           clear c29
           by_cases c30 : t321 ≤ (x1_1.size : Int)
           ·rw [if_pos c30] at H
            have c30b0 := eq_true c30
            have c30b1 : decide (t321 ≤ (x1_1.size : Int)) = true := decide_eq_true c30
            clear c30
            by_cases c31 : (x1_1.extract 0 (t321 : Int).toNat).size + (strOfNums y327).size ≤ 9223372036854775807
            ·rw [if_pos c31] at H
             have c31b0 := eq_true c31
             have c31b1 : decide ((x1_1.extract 0 (t321 : Int).toNat).size + (strOfNums y327).size ≤ 9223372036854775807) = true := decide_eq_true c31
             try have c31b2 : (9223372036854775807 < (x1_1.extract 0 (t321 : Int).toNat).size + (strOfNums y327).size) = False := eq_false (Nat.not_lt.2 c31)
             obtain ⟨ji32, hji32⟩ : ∃ j_ : Int, (wrap64 (t321 + 1)) = j_ := ⟨_, rfl⟩
             replace H : (if 0 ≤ (ji32) then (if (ji32) ≤ (x1_1.size : Int) then (if ((x1_1.extract 0 (t321 : Int).toNat) ++ (strOfNums y327)).size + (x1_1.extract ((ji32) : Int).toNat x1_1.size).size ≤ 9223372036854775807 then (spec_l1Cur_spoilt.l0 kj5 (((x1_1.extract 0 (t321 : Int).toNat) ++ (strOfNums y327)) ++ (x1_1.extract ((ji32) : Int).toNat x1_1.size)) a2 (wrap64 (x7_1 - 1)) s0_0 t331 t332) else (none)) else (none)) else (none)) = some (r1, r2, r3) := by first | (rw [hji32] at H; exact H) | (simp only [hji32] at H ⊢; exact H)
             (try rw [hji32] at A9)
             (try rw [hji32] at A10)
             (try rw [hji32] at A14)
             have hji32w : (IntKind.i64.wrap (t321 + 1)) = ji32 := (i64_w _).trans hji32
             by_cases c33 : 0 ≤ (ji32)
             ·rw [if_pos c33] at H
              have c33b0 := eq_true c33
              have c33b1 : decide (0 ≤ (ji32)) = true := decide_eq_true c33
              clear c33
              by_cases c34 : (ji32) ≤ (x1_1.size : Int)
              ·rw [if_pos c34] at H
               have c34b0 := eq_true c34
               have c34b1 : decide ((ji32) ≤ (x1_1.size : Int)) = true := decide_eq_true c34
               clear c34
               by_cases c35 : ((x1_1.extract 0 (t321 : Int).toNat) ++ (strOfNums y327)).size + (x1_1.extract ((ji32) : Int).toNat x1_1.size).size ≤ 9223372036854775807
               ·rw [if_pos c35] at H
                have c35b0 := eq_true c35
                have c35b1 : decide (((x1_1.extract 0 (t321 : Int).toNat) ++ (strOfNums y327)).size + (x1_1.extract ((ji32) : Int).toNat x1_1.size).size ≤ 9223372036854775807) = true := decide_eq_true c35
                try have c35b2 : (9223372036854775807 < ((x1_1.extract 0 (t321 : Int).toNat) ++ (strOfNums y327)).size + (x1_1.extract ((ji32) : Int).toNat x1_1.size).size) = False := eq_false (Nat.not_lt.2 c35)
                try have c35b4 : (9223372036854775807 < x1_1.extract 0 (t321 : Int).toNat.size + strOfNums y327.size + x1_1.extract ((ji32) : Int).toNat x1_1.size.size) = False := eq_false (by have q_ := Nat.not_lt.2 c35; simp only [ByteArray.size_append] at q_; exact q_)
                have H' := Aside0.mk H
                clear H
                go_wp2_with (first | (go_at_call 31; (with_reducible refine (spec_l1Cur_pick.calls g s0_0 x1001_1 x1002_1 (x1_1.size : Int) t321 t322 t323 w0 _ ?side1 ?side2 A9.out).mono ?_); (case side1 => repeat (with_reducible first | exact HI0.out | apply IsS45.alloc | apply IsS45.drewN | apply IsS45.drew | apply IsS45.set_1 | apply IsS45.set_2)); (case side2 => repeat (first | (with_reducible first | exact HB.out | apply Xc | apply Xa | apply Xb | refine Xe ?_ (IsS45.ge HI0.out)) | exact HB.out)); rintro e w36 ⟨rfl, hi, hb, hk⟩; replace HK := Aside0.mk (KeepBut.trans (by repeat (with_reducible first | exact HK.out | apply Xu | apply Xv | apply keep_drew | apply Xw)) hk (.inl rfl)); replace HB := Aside0.mk (hb); replace HI0 := Aside0.mk (hi); (try clear hb hk hi)) | (go_at_call 31; (with_reducible refine (spec_l1Cur_pick.calls g s0_0 t322 t323 (a2.size : Int) t324 t325 t326 w0 _ ?side1 ?side2 A10.out).mono ?_); (case side1 => repeat (with_reducible first | exact HI0.out | apply IsS45.alloc | apply IsS45.drewN | apply IsS45.drew | apply IsS45.set_1 | apply IsS45.set_2)); (case side2 => repeat (first | (with_reducible first | exact HB.out | apply Xc | apply Xa | apply Xb | refine Xe ?_ (IsS45.ge HI0.out)) | exact HB.out)); rintro e w37 ⟨rfl, hi, hb, hk⟩; replace HK := Aside0.mk (KeepBut.trans (by repeat (with_reducible first | exact HK.out | apply Xu | apply Xv | apply keep_drew | apply Xw)) hk (.inl rfl)); replace HB := Aside0.mk (hb); replace HI0 := Aside0.mk (hi); (try clear hb hk hi); have p13 : 0 ≤ (t324 : Int) := Xz (by first | (with_reducible assumption) | assumption); have q13 : t324 < (a2.size : Int) := Xz (by first | (with_reducible assumption) | assumption); have hx13 := bt_at a2 t324; replace p13 := eq_true p13; replace q13 := eq_true q13) | ((with_reducible refine gate_dst (N := 32) rfl ?_); (try (refine gate_guard (by rfl) ?_; dsimp only)); refine Kd.R_lit (Kd.int .u8) _ 5 ?hg (N := 32) ?hd (xs := ([bt a2 t324] : List Int)) (inner := [.int .u8 (bt a2 t324)]) (ok := fun _ => True) (okp := fun _ => True) ?hr ?hp (fun _ hk => hk) trivial (Below.refl _ _) (Nat.le_refl _) (by simp) ?_; (case hd => rfl); (case hg => rfl); (case hr => first | (go_simp; done) | (go_simp; rfl)); (case hp => exact (Reps.one (show Kd.M (Kd.int .u8) _ _ _ (bt a2 t324) [.int .u8 (bt a2 t324)] from rfl) (Reps.none _ _))); intro v328 w38 ho39 hb hg_ hnew_; clear hg_ hnew_; (first | rw [← Ny327.out] at ho39 | (simp only [Int.reduceToNat] at ho39; rw [← Ny327.out] at ho39)); replace HO329 := Aside0.mk (Kd.R_lower ho39 (keep_size (w := w) (g := g) (row := none) (by repeat (with_reducible first | exact HK.out | apply Xu | apply Xv | apply keep_drew | apply Xw)))); replace HK := Aside0.mk (KeepBut.trans (by repeat (with_reducible first | exact HK.out | apply Xu | apply Xv | apply keep_drew | apply Xw)) (KeepBut.of_below hb g none) (.inl rfl)); replace HB := Aside0.mk (Xd (by repeat (first | (with_reducible first | exact HB.out | apply Xc | apply Xa | apply Xb | refine Xe ?_ (IsS45.ge HI0.out)) | exact HB.out)) hb); replace HI0 := Aside0.mk (IsS45.below (by repeat (with_reducible first | exact HI0.out | apply IsS45.alloc | apply IsS45.drewN | apply IsS45.drew | apply IsS45.set_1 | apply IsS45.set_2)) hb); clear hb ho39; have hcv40 := own_string (P := Tryz.prog) Tryz.underlying22 Tryz.underlying5 Tryz.underlying9 (Kd.own_of_R HO329.out)) | (go_at_call 31; (with_reducible refine (spec_l1Cur_pick.calls g s0_0 t325 t326 3 t330 t331 t332 w0 _ ?side1 ?side2 A14.out).mono ?_); (case side1 => repeat (with_reducible first | exact HI0.out | apply IsS45.alloc | apply IsS45.drewN | apply IsS45.drew | apply IsS45.set_1 | apply IsS45.set_2)); (case side2 => repeat (first | (with_reducible first | exact HB.out | apply Xc | apply Xa | apply Xb | refine Xe ?_ (IsS45.ge HI0.out)) | exact HB.out)); rintro e w41 ⟨rfl, hi, hb, hk⟩; replace HO329 := Aside0.mk (Kd.R_mono (Kd.R_keep (IsS45.apart (show IsS45 w0 _ g s0_0 t325 t326 from by repeat (with_reducible first | exact HI0.out | apply IsS45.alloc | apply IsS45.drewN | apply IsS45.drew | apply IsS45.set_1 | apply IsS45.set_2)) (by (with_reducible repeat (first | apply Xg | apply Xh | apply Xi)); exact HO329.out) (by decide)) hk (fun _ h => h.2)) (fun _ h => h.1)); replace HK := Aside0.mk (KeepBut.trans (by repeat (with_reducible first | exact HK.out | apply Xu | apply Xv | apply keep_drew | apply Xw)) hk (.inl rfl)); replace HB := Aside0.mk (hb); replace HI0 := Aside0.mk (hi); (try clear hb hk hi)))
                go_quiet (fail); try go_wp2
                go_roundg kj5
                case measure => have := HK1.out; have := HJ5.out; omega
                case rel => exact ⟨(((x1_1.extract 0 (t321 : Int).toNat) ++ (strOfNums y327)) ++ (x1_1.extract ((ji32) : Int).toNat x1_1.size)), (wrap64 (x7_1 - 1)), (t331), (t332), (by first | rfl | (simp; done) | (simp only [← hji32] <;> (first | rfl | simp)) | (simp [*]; done)), (by first | rfl | simp | simp [*]), H', ⟨by have := HK1.out; have := HJ5.out; omega⟩, ⟨by repeat (with_reducible first | exact HI0.out | apply IsS45.alloc | apply IsS45.drewN | apply IsS45.drew | apply IsS45.set_1 | apply IsS45.set_2)⟩, ⟨by repeat (with_reducible first | exact HK.out | apply Xu | apply Xv | apply keep_drew | apply Xw)⟩, ⟨by repeat (first | (with_reducible first | exact HB.out | apply Xc | apply Xa | apply Xb | refine Xe ?_ (IsS45.ge HI0.out)) | exact HB.out)⟩⟩
               ·rw [if_neg c35] at H
                exact absurd H (by simp)
              ·rw [if_neg c34] at H
               exact absurd H (by simp)
             ·rw [if_neg c33] at H
              exact absurd H (by simp)
            ·rw [if_neg c31] at H
             exact absurd H (by simp)
           ·rw [if_neg c30] at H
            exact absurd H (by simp)
          ·rw [if_neg c29] at H
           exact absurd H (by simp)
         ·rw [if_neg c28] at H
          have c28b0 : (t330 == 1) = false := beq_eq_false_iff_ne.mpr c28
          have c28b1 : (t330 != 1) = true := bne_iff_ne.mpr c28
          by_cases c42 : 0 ≤ t321
          ·rw [if_pos c42] at H
           have c42b0 := eq_true c42
           have c42b1 : decide (0 ≤ t321) = true := decide_eq_true c42
           clear c42
           by_cases c43 : t321 ≤ (x1_1.size : Int)
           ·rw [if_pos c43] at H
            have c43b0 := eq_true c43
            have c43b1 : decide (t321 ≤ (x1_1.size : Int)) = true := decide_eq_true c43
            clear c43
            obtain ⟨ji44, hji44⟩ : ∃ j_ : Int, (wrap64 (t321 + 1)) = j_ := ⟨_, rfl⟩
            replace H : (if 0 ≤ (ji44) then (if (ji44) ≤ (x1_1.size : Int) then (if (x1_1.extract 0 (t321 : Int).toNat).size + (x1_1.extract ((ji44) : Int).toNat x1_1.size).size ≤ 9223372036854775807 then (spec_l1Cur_spoilt.l0 kj5 ((x1_1.extract 0 (t321 : Int).toNat) ++ (x1_1.extract ((ji44) : Int).toNat x1_1.size)) a2 (wrap64 (x7_1 - 1)) s0_0 t331 t332) else (none)) else (none)) else (none)) = some (r1, r2, r3) := by first | (rw [hji44] at H; exact H) | (simp only [hji44] at H ⊢; exact H)
            (try rw [hji44] at A9)
            (try rw [hji44] at A10)
            (try rw [hji44] at A14)
            have hji44w : (IntKind.i64.wrap (t321 + 1)) = ji44 := (i64_w _).trans hji44
            by_cases c45 : 0 ≤ (ji44)
            ·rw [if_pos c45] at H
             have c45b0 := eq_true c45
             have c45b1 : decide (0 ≤ (ji44)) = true := decide_eq_true c45
             clear c45
             by_cases c46 : (ji44) ≤ (x1_1.size : Int)
             ·rw [if_pos c46] at H
              have c46b0 := eq_true c46
              have c46b1 : decide ((ji44) ≤ (x1_1.size : Int)) = true := decide_eq_true c46
              clear c46
              by_cases c47 : (x1_1.extract 0 (t321 : Int).toNat).size + (x1_1.extract ((ji44) : Int).toNat x1_1.size).size ≤ 9223372036854775807
              ·rw [if_pos c47] at H
               have c47b0 := eq_true c47
               have c47b1 : decide ((x1_1.extract 0 (t321 : Int).toNat).size + (x1_1.extract ((ji44) : Int).toNat x1_1.size).size ≤ 9223372036854775807) = true := decide_eq_true c47
               try have c47b2 : (9223372036854775807 < (x1_1.extract 0 (t321 : Int).toNat).size + (x1_1.extract ((ji44) : Int).toNat x1_1.size).size) = False := eq_false (Nat.not_lt.2 c47)
               have H' := Aside0.mk H
               clear H
               go_wp2_with (first | (go_at_call 31; (with_reducible refine (spec_l1Cur_pick.calls g s0_0 x1001_1 x1002_1 (x1_1.size : Int) t321 t322 t323 w0 _ ?side1 ?side2 A9.out).mono ?_); (case side1 => repeat (with_reducible first | exact HI0.out | apply IsS45.alloc | apply IsS45.drewN | apply IsS45.drew | apply IsS45.set_1 | apply IsS45.set_2)); (case side2 => repeat (first | (with_reducible first | exact HB.out | apply Xc | apply Xa | apply Xb | refine Xe ?_ (IsS45.ge HI0.out)) | exact HB.out)); rintro e w48 ⟨rfl, hi, hb, hk⟩; replace HK := Aside0.mk (KeepBut.trans (by repeat (with_reducible first | exact HK.out | apply Xu | apply Xv | apply keep_drew | apply Xw)) hk (.inl rfl)); replace HB := Aside0.mk (hb); replace HI0 := Aside0.mk (hi); (try clear hb hk hi)) | (go_at_call 31; (with_reducible refine (spec_l1Cur_pick.calls g s0_0 t322 t323 (a2.size : Int) t324 t325 t326 w0 _ ?side1 ?side2 A10.out).mono ?_); (case side1 => repeat (with_reducible first | exact HI0.out | apply IsS45.alloc | apply IsS45.drewN | apply IsS45.drew | apply IsS45.set_1 | apply IsS45.set_2)); (case side2 => repeat (first | (with_reducible first | exact HB.out | apply Xc | apply Xa | apply Xb | refine Xe ?_ (IsS45.ge HI0.out)) | exact HB.out)); rintro e w49 ⟨rfl, hi, hb, hk⟩; replace HK := Aside0.mk (KeepBut.trans (by repeat (with_reducible first | exact HK.out | apply Xu | apply Xv | apply keep_drew | apply Xw)) hk (.inl rfl)); replace HB := Aside0.mk (hb); replace HI0 := Aside0.mk (hi); (try clear hb hk hi); have p13 : 0 ≤ (t324 : Int) := Xz (by first | (with_reducible assumption) | assumption); have q13 : t324 < (a2.size : Int) := Xz (by first | (with_reducible assumption) | assumption); have hx13 := bt_at a2 t324; replace p13 := eq_true p13; replace q13 := eq_true q13) | ((with_reducible refine gate_dst (N := 32) rfl ?_); (try (refine gate_guard (by rfl) ?_; dsimp only)); refine Kd.R_lit (Kd.int .u8) _ 5 ?hg (N := 32) ?hd (xs := ([bt a2 t324] : List Int)) (inner := [.int .u8 (bt a2 t324)]) (ok := fun _ => True) (okp := fun _ => True) ?hr ?hp (fun _ hk => hk) trivial (Below.refl _ _) (Nat.le_refl _) (by simp) ?_; (case hd => rfl); (case hg => rfl); (case hr => first | (go_simp; done) | (go_simp; rfl)); (case hp => exact (Reps.one (show Kd.M (Kd.int .u8) _ _ _ (bt a2 t324) [.int .u8 (bt a2 t324)] from rfl) (Reps.none _ _))); intro v328 w50 ho51 hb hg_ hnew_; clear hg_ hnew_; (first | rw [← Ny327.out] at ho51 | (simp only [Int.reduceToNat] at ho51; rw [← Ny327.out] at ho51)); replace HO329 := Aside0.mk (Kd.R_lower ho51 (keep_size (w := w) (g := g) (row := none) (by repeat (with_reducible first | exact HK.out | apply Xu | apply Xv | apply keep_drew | apply Xw)))); replace HK := Aside0.mk (KeepBut.trans (by repeat (with_reducible first | exact HK.out | apply Xu | apply Xv | apply keep_drew | apply Xw)) (KeepBut.of_below hb g none) (.inl rfl)); replace HB := Aside0.mk (Xd (by repeat (first | (with_reducible first | exact HB.out | apply Xc | apply Xa | apply Xb | refine Xe ?_ (IsS45.ge HI0.out)) | exact HB.out)) hb); replace HI0 := Aside0.mk (IsS45.below (by repeat (with_reducible first | exact HI0.out | apply IsS45.alloc | apply IsS45.drewN | apply IsS45.drew | apply IsS45.set_1 | apply IsS45.set_2)) hb); clear hb ho51; have hcv52 := own_string (P := Tryz.prog) Tryz.underlying22 Tryz.underlying5 Tryz.underlying9 (Kd.own_of_R HO329.out)) | (go_at_call 31; (with_reducible refine (spec_l1Cur_pick.calls g s0_0 t325 t326 3 t330 t331 t332 w0 _ ?side1 ?side2 A14.out).mono ?_); (case side1 => repeat (with_reducible first | exact HI0.out | apply IsS45.alloc | apply IsS45.drewN | apply IsS45.drew | apply IsS45.set_1 | apply IsS45.set_2)); (case side2 => repeat (first | (with_reducible first | exact HB.out | apply Xc | apply Xa | apply Xb | refine Xe ?_ (IsS45.ge HI0.out)) | exact HB.out)); rintro e w53 ⟨rfl, hi, hb, hk⟩; replace HO329 := Aside0.mk (Kd.R_mono (Kd.R_keep (IsS45.apart (show IsS45 w0 _ g s0_0 t325 t326 from by repeat (with_reducible first | exact HI0.out | apply IsS45.alloc | apply IsS45.drewN | apply IsS45.drew | apply IsS45.set_1 | apply IsS45.set_2)) (by (with_reducible repeat (first | apply Xg | apply Xh | apply Xi)); exact HO329.out) (by decide)) hk (fun _ h => h.2)) (fun _ h => h.1)); replace HK := Aside0.mk (KeepBut.trans (by repeat (with_reducible first | exact HK.out | apply Xu | apply Xv | apply keep_drew | apply Xw)) hk (.inl rfl)); replace HB := Aside0.mk (hb); replace HI0 := Aside0.mk (hi); (try clear hb hk hi)))
               go_quiet (fail); try go_wp2
               go_roundg kj5
               case measure => have := HK1.out; have := HJ5.out; omega
               case rel => exact ⟨((x1_1.extract 0 (t321 : Int).toNat) ++ (x1_1.extract ((ji44) : Int).toNat x1_1.size)), (wrap64 (x7_1 - 1)), (t331), (t332), (by first | rfl | (simp; done) | (simp only [← hji44] <;> (first | rfl | simp)) | (simp [*]; done)), (by first | rfl | simp | simp [*]), H', ⟨by have := HK1.out; have := HJ5.out; omega⟩, ⟨by repeat (with_reducible first | exact HI0.out | apply IsS45.alloc | apply IsS45.drewN | apply IsS45.drew | apply IsS45.set_1 | apply IsS45.set_2)⟩, ⟨by repeat (with_reducible first | exact HK.out | apply Xu | apply Xv | apply keep_drew | apply Xw)⟩, ⟨by repeat (first | (with_reducible first | exact HB.out | apply Xc | apply Xa | apply Xb | refine Xe ?_ (IsS45.ge HI0.out)) | exact HB.out)⟩⟩
              ·rw [if_neg c47] at H
               exact absurd H (by simp)
             ·rw [if_neg c46] at H
              exact absurd H (by simp)
            ·rw [if_neg c45] at H
             exact absurd H (by simp)
           ·rw [if_neg c43] at H
            exact absurd H (by simp)
          ·rw [if_neg c42] at H
           exact absurd H (by simp)
       ·rw [if_neg c12] at H
        exact absurd H (by simp)
      ·rw [if_neg c11] at H
       exact absurd H (by simp)
     ·replace c8 := Bool.eq_false_iff.mpr c8
      subst c8
      rw [if_neg (show ¬ (false = true) by decide)] at H
      simp only [Option.some.injEq, Prod.mk.injEq] at H
      obtain ⟨rfl, rfl, rfl⟩ := H
      go_wp2
      repeat (go_quiet (fail); try go_wp2)
      go_ret
      exact ⟨by first | rfl | (simp [*, errW_none, errW_some] <;> rfl), by repeat (with_reducible first | exact HI0.out | apply IsS45.alloc | apply IsS45.drewN | apply IsS45.drew | apply IsS45.set_1 | apply IsS45.set_2), by repeat (first | (with_reducible first | exact HB.out | apply Xc | apply Xa | apply Xb | refine Xe ?_ (IsS45.ge HI0.out)) | exact HB.out), by repeat (with_reducible first | exact HK.out | apply Xu | apply Xv | apply keep_drew | apply Xw)⟩

/-! ### spec_DrawParsePages: function 24 -/
def spec_DrawParsePages.f (k : Nat) (l0 : List Int) : Option (ByteArray) := (spec_l1Cur_surePages.f k l0 0 0).bind fun bt334 => ((spec_bpText.f k bt334.1).bind fun t339 => ((spec_l1Cur_one.f l0 bt334.2.1 bt334.2.2 3).bind fun bt340 => (if bt340.1 = true then ((spec_l1Cur_spoilt.f k l0 bt340.2.1 bt340.2.2 t339 (⟨#[48, 49, 50, 51, 45, 44, 120]⟩ : ByteArray)).bind fun bt343 => (some bt343.1)) else (some t339))))
set_option maxHeartbeats 8000000 in
set_option maxRecDepth 100000 in
theorem spec_DrawParsePages.calls (k : Nat) (A0 : Option Addr) (c0 : Nat) (l0 : List Int) (r : ByteArray) (w : World) (hr0 : Kd.C (Kd.int .u8) w A0 l0.length l0) (hc0 : l0.length ≤ c0) (h : spec_DrawParsePages.f k l0 = some r) :
  Calls Tryz.prog 24 #[.slice A0 l0.length c0] w fun e w' => e = .returned (.string r) ∧ Below w.heap.size w w' := by
 have hu45 := Tryz.underlying45
 have HR0 := Aside0.mk hr0
 have HC0 := Aside0.mk hc0
 clear hr0 hc0
 have HB := Aside0.mk (Below.refl w.heap.size w)
 have H := h
 unfold spec_DrawParsePages.f at H
 clear h
 replace H := Xs.mp H
 obtain ⟨⟨t334, t337, t338⟩, A20, H⟩ := H
 (try dsimp only at H)
 have A2 := Aside0.mk A20
 clear A20
 replace H := Xs.mp H
 obtain ⟨t339, A30, H⟩ := H
 (try dsimp only at H)
 have A3 := Aside0.mk A30
 clear A30
 replace H := Xs.mp H
 obtain ⟨⟨t340, t341, t342⟩, A40, H⟩ := H
 (try dsimp only at H)
 have A4 := Aside0.mk A40
 clear A40
 by_cases c5 : t340 = true
 ·subst c5
  rw [if_pos rfl] at H
  replace H := Xs.mp H
  obtain ⟨⟨t343, t344, t345⟩, A60, H⟩ := H
  (try dsimp only at H)
  have A6 := Aside0.mk A60
  clear A60
  obtain rfl := Option.some.inj H
  go_enter Tryz.func24, Tryz.ntmps24
  go_wp2_with (first | ((with_reducible refine gate_dst (N := 7) rfl ?_); refine box_event ?hg (N := 7) ?hd (cs := #[.slice A0 l0.length c0, .int .i64 0, .int .u64 0]) (t := 45) ?hr ?_; (case hd => rfl); (case hg => rfl); (case hr => first | (go_simp; done) | (go_simp; rfl)); intro g333 hg w7 hbox hb2; have hi := (show IsS45 w w7 g333 l0 0 0 from ⟨_, _, hbox, (by rw [hg]; exact (Xf (by repeat (with_reducible first | exact HB.out | apply Xc | apply Xa | apply Xb)))), HR0.out⟩); replace HB := Aside0.mk (Xd (by repeat (with_reducible first | exact HB.out | apply Xc | apply Xa | apply Xb)) hb2); replace HI333 := Aside0.mk (hi); (try clear hb2); (try clear hi); (try clear hbox); (try clear hg)) | ((with_reducible refine gate_callee (f := 48) rfl ?_); refine goesL_ (some 9) rfl rfl Tryz.func48 (by kernel_rfl) rfl #[.pointer (some ⟨g333, 0, none⟩)] rfl (by (try simp only [Xp, Xq, Xr]); first | done | rfl) ?_; (with_reducible refine (spec_l1Cur_surePages.calls k g333 l0 0 0 t334 t337 t338 w _ ?side1 ?side2 A2.out).mono ?_); (case side1 => repeat (with_reducible first | exact HI333.out | apply IsS45.alloc | apply IsS45.drewN | apply IsS45.drew | apply IsS45.set_1 | apply IsS45.set_2)); (case side2 => repeat (first | (with_reducible first | exact HB.out | apply Xc | apply Xa | apply Xb | refine Xe ?_ (IsS45.ge HI333.out)) | exact HB.out)); rintro e w8 ⟨v335, rfl, ho0, hi, hb, hk⟩; refine ⟨_, rfl, ?_⟩; replace HO336 := Aside0.mk (Kd.R_lower ho0 (Xf (by repeat (first | (with_reducible first | exact HB.out | apply Xc | apply Xa | apply Xb | refine Xe ?_ (IsS45.ge HI333.out)) | exact HB.out)))); replace HB := Aside0.mk (hb); replace HI333 := Aside0.mk (hi); (try clear hb hk hi); (try clear ho0); obtain ⟨Ao9, co9, eo9⟩ := Kd.R_slice HO336.out; subst eo9) | ((with_reducible refine gate_callee (f := 52) rfl ?_); refine goesL_ (some 10) rfl rfl Tryz.func52 (by kernel_rfl) rfl #[.slice Ao9 t334.length co9] rfl (by (try simp only [Xp, Xq, Xr]); first | done | rfl) ?_; (with_reducible refine (spec_bpText.calls k _ _ t334 t339 _ ?side1 ?side2 A3.out).mono ?_); (case side1 => repeat (first | exact (Kd.R_reads' HO336.out).2.2 | (with_reducible refine Xj ?_ _) | (with_reducible refine Xk ?_ _) | (with_reducible refine Xl ?_))); (case side2 => exact (Kd.R_reads' HO336.out).2.1); rintro e w10 ⟨rfl, hb⟩; refine ⟨_, rfl, ?_⟩; replace HO336 := Aside0.mk (Xx (by (with_reducible repeat (first | apply Xg | apply Xh | apply Xi)); exact HO336.out) hb); replace HB := Aside0.mk (Xd (by repeat (first | (with_reducible first | exact HB.out | apply Xc | apply Xa | apply Xb | refine Xe ?_ (IsS45.ge HI333.out)) | exact HB.out)) hb); replace HI333 := Aside0.mk (IsS45.below (by repeat (with_reducible first | exact HI333.out | apply IsS45.alloc | apply IsS45.drewN | apply IsS45.drew | apply IsS45.set_1 | apply IsS45.set_2)) hb); (try clear hb)) | ((with_reducible refine gate_callee (f := 43) rfl ?_); refine goesL_ (some 12) rfl rfl Tryz.func43 (by kernel_rfl) rfl #[.pointer (some ⟨g333, 0, none⟩), .int .i64 3] rfl (by (try simp only [Xp, Xq, Xr]); first | done | rfl) ?_; (with_reducible refine (spec_l1Cur_one.calls g333 l0 t337 t338 3 true t341 t342 w _ ?side1 ?side2 A4.out).mono ?_); (case side1 => repeat (with_reducible first | exact HI333.out | apply IsS45.alloc | apply IsS45.drewN | apply IsS45.drew | apply IsS45.set_1 | apply IsS45.set_2)); (case side2 => repeat (first | (with_reducible first | exact HB.out | apply Xc | apply Xa | apply Xb | refine Xe ?_ (IsS45.ge HI333.out)) | exact HB.out)); rintro e w11 ⟨rfl, hi, hb, hk⟩; refine ⟨_, rfl, ?_⟩; replace HO336 := Aside0.mk (Kd.R_mono (Kd.R_keep (IsS45.apart (show IsS45 w _ g333 l0 t337 t338 from by repeat (with_reducible first | exact HI333.out | apply IsS45.alloc | apply IsS45.drewN | apply IsS45.drew | apply IsS45.set_1 | apply IsS45.set_2)) (by (with_reducible repeat (first | apply Xg | apply Xh | apply Xi)); exact HO336.out) (by decide)) hk (fun _ h => h.2)) (fun _ h => h.1)); replace HB := Aside0.mk (hb); replace HI333 := Aside0.mk (hi); (try clear hb hk hi)) | ((with_reducible refine gate_callee (f := 53) rfl ?_); refine goesL_ (some 15) rfl rfl Tryz.func53 (by kernel_rfl) rfl #[.pointer (some ⟨g333, 0, none⟩), .string t339, .string (⟨#[48, 49, 50, 51, 45, 44, 120]⟩ : ByteArray)] rfl (by (try simp only [Xp, Xq, Xr]); first | done | rfl) ?_; (with_reducible refine (spec_l1Cur_spoilt.calls k g333 l0 t341 t342 t339 (⟨#[48, 49, 50, 51, 45, 44, 120]⟩ : ByteArray) t343 t344 t345 w _ ?side1 ?side2 A6.out).mono ?_); (case side1 => repeat (with_reducible first | exact HI333.out | apply IsS45.alloc | apply IsS45.drewN | apply IsS45.drew | apply IsS45.set_1 | apply IsS45.set_2)); (case side2 => repeat (first | (with_reducible first | exact HB.out | apply Xc | apply Xa | apply Xb | refine Xe ?_ (IsS45.ge HI333.out)) | exact HB.out)); rintro e w12 ⟨rfl, hi, hb, hk⟩; refine ⟨_, rfl, ?_⟩; replace HO336 := Aside0.mk (Kd.R_mono (Kd.R_keep (IsS45.apart (show IsS45 w _ g333 l0 t341 t342 from by repeat (with_reducible first | exact HI333.out | apply IsS45.alloc | apply IsS45.drewN | apply IsS45.drew | apply IsS45.set_1 | apply IsS45.set_2)) (by (with_reducible repeat (first | apply Xg | apply Xh | apply Xi)); exact HO336.out) (by decide)) hk (fun _ h => h.2)) (fun _ h => h.1)); replace HB := Aside0.mk (hb); replace HI333 := Aside0.mk (hi); (try clear hb hk hi)))
  go_ret
  exact ⟨by first | rfl | (simp [*, errW_none, errW_some] <;> rfl), by repeat (first | (with_reducible first | exact HB.out | apply Xc | apply Xa | apply Xb | refine Xe ?_ (IsS45.ge HI333.out)) | exact HB.out)⟩
 ·replace c5 := Bool.eq_false_iff.mpr c5
  subst c5
  rw [if_neg (show ¬ (false = true) by decide)] at H
  obtain rfl := Option.some.inj H
  go_enter Tryz.func24, Tryz.ntmps24
  go_wp2_with (first | ((with_reducible refine gate_dst (N := 7) rfl ?_); refine box_event ?hg (N := 7) ?hd (cs := #[.slice A0 l0.length c0, .int .i64 0, .int .u64 0]) (t := 45) ?hr ?_; (case hd => rfl); (case hg => rfl); (case hr => first | (go_simp; done) | (go_simp; rfl)); intro g333 hg w13 hbox hb2; have hi := (show IsS45 w w13 g333 l0 0 0 from ⟨_, _, hbox, (by rw [hg]; exact (Xf (by repeat (with_reducible first | exact HB.out | apply Xc | apply Xa | apply Xb)))), HR0.out⟩); replace HB := Aside0.mk (Xd (by repeat (with_reducible first | exact HB.out | apply Xc | apply Xa | apply Xb)) hb2); replace HI333 := Aside0.mk (hi); (try clear hb2); (try clear hi); (try clear hbox); (try clear hg)) | ((with_reducible refine gate_callee (f := 48) rfl ?_); refine goesL_ (some 9) rfl rfl Tryz.func48 (by kernel_rfl) rfl #[.pointer (some ⟨g333, 0, none⟩)] rfl (by (try simp only [Xp, Xq, Xr]); first | done | rfl) ?_; (with_reducible refine (spec_l1Cur_surePages.calls k g333 l0 0 0 t334 t337 t338 w _ ?side1 ?side2 A2.out).mono ?_); (case side1 => repeat (with_reducible first | exact HI333.out | apply IsS45.alloc | apply IsS45.drewN | apply IsS45.drew | apply IsS45.set_1 | apply IsS45.set_2)); (case side2 => repeat (first | (with_reducible first | exact HB.out | apply Xc | apply Xa | apply Xb | refine Xe ?_ (IsS45.ge HI333.out)) | exact HB.out)); rintro e w14 ⟨v335, rfl, ho0, hi, hb, hk⟩; refine ⟨_, rfl, ?_⟩; replace HO336 := Aside0.mk (Kd.R_lower ho0 (Xf (by repeat (first | (with_reducible first | exact HB.out | apply Xc | apply Xa | apply Xb | refine Xe ?_ (IsS45.ge HI333.out)) | exact HB.out)))); replace HB := Aside0.mk (hb); replace HI333 := Aside0.mk (hi); (try clear hb hk hi); (try clear ho0); obtain ⟨Ao15, co15, eo15⟩ := Kd.R_slice HO336.out; subst eo15) | ((with_reducible refine gate_callee (f := 52) rfl ?_); refine goesL_ (some 10) rfl rfl Tryz.func52 (by kernel_rfl) rfl #[.slice Ao15 t334.length co15] rfl (by (try simp only [Xp, Xq, Xr]); first | done | rfl) ?_; (with_reducible refine (spec_bpText.calls k _ _ t334 t339 _ ?side1 ?side2 A3.out).mono ?_); (case side1 => repeat (first | exact (Kd.R_reads' HO336.out).2.2 | (with_reducible refine Xj ?_ _) | (with_reducible refine Xk ?_ _) | (with_reducible refine Xl ?_))); (case side2 => exact (Kd.R_reads' HO336.out).2.1); rintro e w16 ⟨rfl, hb⟩; refine ⟨_, rfl, ?_⟩; replace HO336 := Aside0.mk (Xx (by (with_reducible repeat (first | apply Xg | apply Xh | apply Xi)); exact HO336.out) hb); replace HB := Aside0.mk (Xd (by repeat (first | (with_reducible first | exact HB.out | apply Xc | apply Xa | apply Xb | refine Xe ?_ (IsS45.ge HI333.out)) | exact HB.out)) hb); replace HI333 := Aside0.mk (IsS45.below (by repeat (with_reducible first | exact HI333.out | apply IsS45.alloc | apply IsS45.drewN | apply IsS45.drew | apply IsS45.set_1 | apply IsS45.set_2)) hb); (try clear hb)) | ((with_reducible refine gate_callee (f := 43) rfl ?_); refine goesL_ (some 12) rfl rfl Tryz.func43 (by kernel_rfl) rfl #[.pointer (some ⟨g333, 0, none⟩), .int .i64 3] rfl (by (try simp only [Xp, Xq, Xr]); first | done | rfl) ?_; (with_reducible refine (spec_l1Cur_one.calls g333 l0 t337 t338 3 false t341 t342 w _ ?side1 ?side2 A4.out).mono ?_); (case side1 => repeat (with_reducible first | exact HI333.out | apply IsS45.alloc | apply IsS45.drewN | apply IsS45.drew | apply IsS45.set_1 | apply IsS45.set_2)); (case side2 => repeat (first | (with_reducible first | exact HB.out | apply Xc | apply Xa | apply Xb | refine Xe ?_ (IsS45.ge HI333.out)) | exact HB.out)); rintro e w17 ⟨rfl, hi, hb, hk⟩; refine ⟨_, rfl, ?_⟩; replace HO336 := Aside0.mk (Kd.R_mono (Kd.R_keep (IsS45.apart (show IsS45 w _ g333 l0 t337 t338 from by repeat (with_reducible first | exact HI333.out | apply IsS45.alloc | apply IsS45.drewN | apply IsS45.drew | apply IsS45.set_1 | apply IsS45.set_2)) (by (with_reducible repeat (first | apply Xg | apply Xh | apply Xi)); exact HO336.out) (by decide)) hk (fun _ h => h.2)) (fun _ h => h.1)); replace HB := Aside0.mk (hb); replace HI333 := Aside0.mk (hi); (try clear hb hk hi)))
  go_ret
  exact ⟨by first | rfl | (simp [*, errW_none, errW_some] <;> rfl), by repeat (first | (with_reducible first | exact HB.out | apply Xc | apply Xa | apply Xb | refine Xe ?_ (IsS45.ge HI333.out)) | exact HB.out)⟩

/-! ### strings_Split: function 54 -/
/-- The package-level variables of the library that the calls read: a number, an error. -/
def LibVars (w : World) : Prop := (∃ m : Int, w.cell? ⟨0, 0, none⟩ = some (.int .i64 m)) ∧ (∃ te pe, w.cell? ⟨1, 0, none⟩ = some (.iface te pe))
theorem LibVars.below {w W : World} (h : LibVars w) (hb : Below w.heap.size w W) : LibVars W := by
 obtain ⟨⟨m, hm⟩, te, pe, he⟩ := h
 exact ⟨⟨m, by rw [hb.cell (p := ⟨0, 0, none⟩) (Xt w _ hm)]; exact hm⟩, te, pe, by rw [hb.cell (p := ⟨1, 0, none⟩) (Xt w _ he)]; exact he⟩
def strings_Split.f (a0 : ByteArray) (a1 : ByteArray) : Option (List ByteArray) := if a0.size ≤ 1000000 then (if 1 ≤ a1.size then (some (Lib.splitB a1 0 (Lib.countB a0 a1) a0)) else (none)) else (none)
theorem strings_Split.calls (a0 : ByteArray) (a1 : ByteArray) (r : List ByteArray) (w : World) (hE : LibVars w) (h : strings_Split.f a0 a1 = some r) :
  Calls Tryz.prog 54 #[.string a0, .string a1] w fun e w' => ∃ v0_ : Value, e = .returned (v0_) ∧ Kd.R Kd.string 9 w' w.heap.size (fun _ => True) v0_ r ∧ Below w.heap.size w w' := by
 unfold strings_Split.f at h
 by_cases h0 : a0.size ≤ 1000000
 ·rw [if_pos h0] at h
  by_cases h1 : 1 ≤ a1.size
  ·rw [if_pos h1] at h
   obtain rfl := Option.some.inj h
   obtain ⟨⟨m, hm⟩, _⟩ := hE
   refine (Tryz.strings_Split a0 a1 m w (by omega) hm h1).mono ?_
   rintro e w' ⟨rfl, rfl⟩
   have hl := Lib.splitB_all a1 h1 0 (Lib.countB a0 a1) a0 rfl
   have hc := Lib.countB_le a1 h1 a0.size a0 (Nat.le_refl _)
   have ho := own_lit_of (enc := Value.string) w w.heap.size 9 (Lib.splitB a1 0 (Lib.countB a0 a1) a0) (Nat.le_refl _) (by omega)
   refine ⟨_, rfl, ?_, Xc (Below.refl _ _) _⟩
   rw [← hl]
   exact Kd.R_of_own (enc := Value.string) ho (fun _ _ => trivial)
  ·rw [if_neg h1] at h
   cases h
 ·rw [if_neg h0] at h
  cases h

/-! ### strings_Cut: function 55 -/
def strings_Cut.f (a0 : ByteArray) (a1 : ByteArray) : Option (ByteArray × ByteArray × Bool) := if a0.size ≤ 1000000 then (some (⟨(Lib.cut a0.data.toList a1.data.toList).1.toArray⟩, ⟨(Lib.cut a0.data.toList a1.data.toList).2.1.toArray⟩, (Lib.cut a0.data.toList a1.data.toList).2.2)) else (none)
theorem strings_Cut.calls (a0 : ByteArray) (a1 : ByteArray) (r1 : ByteArray) (r2 : ByteArray) (r3 : Bool) (w : World) (hE : LibVars w) (h : strings_Cut.f a0 a1 = some (r1, r2, r3)) :
  Calls Tryz.prog 55 #[.string a0, .string a1] w fun e w' => e = .returned (.tuple #[.string r1, .string r2, .bool r3]) ∧ Drawn0 w w' := by
 unfold strings_Cut.f at h
 by_cases h0 : a0.size ≤ 1000000
 ·rw [if_pos h0] at h
  obtain ⟨⟨m, hm⟩, _⟩ := hE
  have h := Option.some.inj h
  simp only [Prod.mk.injEq] at h
  obtain ⟨rfl, rfl, rfl⟩ := h
  refine (Tryz.strings_Cut a0 a1 m w (by omega) hm).mono ?_
  rintro e w' ⟨rfl, n, rfl⟩
  exact ⟨rfl, n, rfl⟩
 ·rw [if_neg h0] at h
  cases h

/-! ### strconv_Atoi: function 56 -/
/-- The error of a parse: none, or one of the library's. -/
def errB (b : Bool) (N : Nat) : Value := if b = true then .iface 84 (.pointer (some ⟨N, 0, none⟩)) else .nilIface
theorem errB_true (N : Nat) : errB true N = .iface 84 (.pointer (some ⟨N, 0, none⟩)) := rfl
theorem errB_false (N : Nat) : errB false N = .nilIface := rfl
/-- The number, and whether the text is none; not told where the number is out of range. -/
def strconv_Atoi.f (a0 : ByteArray) : Option (Int × Bool) := if a0.size ≤ 1000000 then (match Lib.atoiAll a0.data.toList with
 | .ok v => some (v, false)
 | .range => none
 | _ => some (0, true)) else (none)
theorem strconv_Atoi.calls (a0 : ByteArray) (r1 : Int) (r2 : Bool) (w : World) (hE : LibVars w) (h : strconv_Atoi.f a0 = some (r1, r2)) :
  Calls Tryz.prog 56 #[.string a0] w fun e w' => ∃ N : Nat, e = .returned (.tuple #[.int .i64 r1, errB r2 N]) ∧ Below w.heap.size w w' := by
 unfold strconv_Atoi.f at h
 by_cases h0 : a0.size ≤ 1000000
 ·rw [if_pos h0] at h
  cases hv : Lib.atoiAll a0.data.toList with
  | ok v =>
   rw [hv] at h
   have h := Option.some.inj h
   simp only [Prod.mk.injEq] at h
   obtain ⟨rfl, rfl⟩ := h
   refine (Tryz.strconv_Atoi_ok a0 (by omega) v hv w).mono ?_
   rintro e w' ⟨rfl, hw⟩
   refine ⟨0, rfl, ?_⟩
   rcases hw with rfl | ⟨t, rfl⟩
   ·exact Below.refl _ _
   ·exact bytes_below (Below.refl _ _) (Nat.le_refl _) 5 t
  | range => rw [hv] at h; cases h
  | _ =>
   rw [hv] at h
   have h := Option.some.inj h
   simp only [Prod.mk.injEq] at h
   obtain ⟨rfl, rfl⟩ := h
   obtain ⟨_, te, pe, he⟩ := hE
   refine (Tryz.strconv_Atoi_syntax a0 (by omega) hv (.iface te pe) w he (.inr ⟨te, pe, rfl⟩)).mono ?_
   rintro e w' ⟨N, rfl, _, _, hb⟩
   exact ⟨N, rfl, hb⟩
 ·rw [if_neg h0] at h
  cases h

end Go.Proofs.YtjkfgeigicljpaaGreatDoor.PFnPagesNumbered
