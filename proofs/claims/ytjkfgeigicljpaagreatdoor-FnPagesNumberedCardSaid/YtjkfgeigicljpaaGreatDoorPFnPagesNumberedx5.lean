-- WRITTEN BY A PROGRAM OF THIS SESSION (xprint), out of the translation: not trusted: it is checked as any text
import Derived.Test.YtjkfgeigicljpaaGreatDoorPFnPagesNumberedx0
import Derived.Test.YtjkfgeigicljpaaGreatDoorPFnPagesNumberedx1
import Derived.Test.YtjkfgeigicljpaaGreatDoorPFnPagesNumberedx4
namespace Go.Proofs.YtjkfgeigicljpaaGreatDoor.PFnPagesNumbered
open Go.RowKit Go.Proofs.YtjkfgeigicljpaaGreatDoorW.PrintWords Go.Proofs.YtjkfgeigicljpaaGreatDoorW.PrintLast Go.Proofs.YtjkfgeigicljpaaGreatDoorW.PrintMore
attribute [local go_sem] max2_int min2_int max_two min_two max_three min_three max_four min_four
set_option linter.unusedVariables false
set_option linter.unusedSimpArgs false

/-! ### spec_DrawPagesText: function 21 -/
def spec_DrawPagesText.l0 : Nat → List Int → Int → List Int → Int → Int → Option (List Int)
 | 0, _, _, _, _, _ => none
 | k + 1, x4, x5, x249000, x249001, x249002 => (spec_l1Cur_pick.f x249000 x249001 x249002 2).bind fun bt266 => (if x5 < (wrap64 (20 + bt266.1)) then (if 0 ≤ (wrap64 (x5 - 1)) then (if (wrap64 (x5 - 1)) < (x4.length : Int) then (if x4.length < 17592186044416 then (spec_DrawPagesText.l0 k (x4 ++ [wrap64 ((rd x4 (wrap64 (x5 - 1))) + 1)]) (wrap64 (x5 + 1)) x249000 bt266.2.1 bt266.2.2) else (none)) else (none)) else (none)) else (some x4))
def spec_DrawPagesText.f (k : Nat) (l0 : List Int) : Option (List Int) := (spec_l1Cur_surePages.f k l0 0 0).bind fun bt249 => ((spec_l1Cur_pick.f l0 bt249.2.1 bt249.2.2 14).bind fun bt254 => (if bt254.1 = 0 then (some ([] : List Int)) else (if bt254.1 = 1 then ((spec_l1Cur_among.f l0 bt254.2.1 bt254.2.2 (([(-1), 0, 1, 2000, 2001, 4611686018427387904] : List Int))).bind fun bt260 => (if bt249.1.length < 17592186044416 then (some (bt249.1 ++ [bt260.1])) else (none))) else (if bt254.1 = 2 then (spec_DrawPagesText.l0 k bt249.1 (bt249.1.length : Int) l0 bt254.2.1 bt254.2.2) else (some bt249.1)))))
set_option maxHeartbeats 8000000 in
set_option maxRecDepth 100000 in
theorem spec_DrawPagesText.calls (k : Nat) (A0 : Option Addr) (c0 : Nat) (l0 : List Int) (r : List Int) (w : World) (hr0 : Kd.C (Kd.int .u8) w A0 l0.length l0) (hc0 : l0.length ≤ c0) (h : spec_DrawPagesText.f k l0 = some r) :
  Calls Tryz.prog 21 #[.slice A0 l0.length c0] w fun e w' => ∃ v0_ : Value, e = .returned (v0_) ∧ Kd.R (Kd.int .i64) 3 w' w.heap.size (fun _ => True) v0_ r ∧ Below w.heap.size w w' := by
 have hu45 := Tryz.underlying45
 have HR0 := Aside0.mk hr0
 have HC0 := Aside0.mk hc0
 clear hr0 hc0
 have HB := Aside0.mk (Below.refl w.heap.size w)
 have H := h
 unfold spec_DrawPagesText.f at H
 clear h
 replace H := Xs.mp H
 obtain ⟨⟨t249, t252, t253⟩, A20, H⟩ := H
 (try dsimp only at H)
 have A2 := Aside0.mk A20
 clear A20
 replace H := Xs.mp H
 obtain ⟨⟨t254, t255, t256⟩, A30, H⟩ := H
 (try dsimp only at H)
 have A3 := Aside0.mk A30
 clear A30
 by_cases c4 : t254 = 0
 ·rw [if_pos c4] at H
  have c4b0 : (t254 == 0) = true := beq_iff_eq.mpr c4
  have c4b1 : (t254 != 0) = false := bne_eq_false_iff_eq.mpr c4
  clear c4
  obtain rfl := Option.some.inj H
  go_enter Tryz.func21, Tryz.ntmps21
  go_wp2_with (first | ((with_reducible refine gate_dst (N := 8) rfl ?_); refine box_event ?hg (N := 8) ?hd (cs := #[.slice A0 l0.length c0, .int .i64 0, .int .u64 0]) (t := 45) ?hr ?_; (case hd => rfl); (case hg => rfl); (case hr => first | (go_simp; done) | (go_simp; rfl)); intro g248 hg w5 hbox hb2; have hi := (show IsS45 w w5 g248 l0 0 0 from ⟨_, _, hbox, (by rw [hg]; exact (Xf (by repeat (with_reducible first | exact HB.out | apply Xc | apply Xa | apply Xb)))), HR0.out⟩); replace HB := Aside0.mk (Xd (by repeat (with_reducible first | exact HB.out | apply Xc | apply Xa | apply Xb)) hb2); replace HI248 := Aside0.mk (hi); (try clear hb2); (try clear hi); (try clear hbox); (try clear hg)) | ((with_reducible refine gate_callee (f := 48) rfl ?_); refine goesL_ (some 10) rfl rfl Tryz.func48 (by kernel_rfl) rfl #[.pointer (some ⟨g248, 0, none⟩)] rfl (by (try simp only [Xp, Xq, Xr]); first | done | rfl) ?_; (with_reducible refine (spec_l1Cur_surePages.calls k g248 l0 0 0 t249 t252 t253 w _ ?side1 ?side2 A2.out).mono ?_); (case side1 => repeat (with_reducible first | exact HI248.out | apply IsS45.alloc | apply IsS45.drewN | apply IsS45.drew | apply IsS45.set_1 | apply IsS45.set_2)); (case side2 => repeat (first | (with_reducible first | exact HB.out | apply Xc | apply Xa | apply Xb | refine Xe ?_ (IsS45.ge HI248.out)) | exact HB.out)); rintro e w6 ⟨v250, rfl, ho0, hi, hb, hk⟩; refine ⟨_, rfl, ?_⟩; replace HO251 := Aside0.mk (Kd.R_lower ho0 (Xf (by repeat (first | (with_reducible first | exact HB.out | apply Xc | apply Xa | apply Xb | refine Xe ?_ (IsS45.ge HI248.out)) | exact HB.out)))); replace HB := Aside0.mk (hb); replace HI248 := Aside0.mk (hi); (try clear hb hk hi); (try clear ho0)) | ((with_reducible refine gate_callee (f := 31) rfl ?_); refine goesL_ (some 12) rfl rfl Tryz.func31 (by kernel_rfl) rfl #[.pointer (some ⟨g248, 0, none⟩), .int .i64 14] rfl (by (try simp only [Xp, Xq, Xr]); first | done | rfl) ?_; (with_reducible refine (spec_l1Cur_pick.calls g248 l0 t252 t253 14 t254 t255 t256 w _ ?side1 ?side2 A3.out).mono ?_); (case side1 => repeat (with_reducible first | exact HI248.out | apply IsS45.alloc | apply IsS45.drewN | apply IsS45.drew | apply IsS45.set_1 | apply IsS45.set_2)); (case side2 => repeat (first | (with_reducible first | exact HB.out | apply Xc | apply Xa | apply Xb | refine Xe ?_ (IsS45.ge HI248.out)) | exact HB.out)); rintro e w7 ⟨rfl, hi, hb, hk⟩; refine ⟨_, rfl, ?_⟩; replace HO251 := Aside0.mk (Kd.R_mono (Kd.R_keep (IsS45.apart (show IsS45 w _ g248 l0 t252 t253 from by repeat (with_reducible first | exact HI248.out | apply IsS45.alloc | apply IsS45.drewN | apply IsS45.drew | apply IsS45.set_1 | apply IsS45.set_2)) (by (with_reducible repeat (first | apply Xg | apply Xh | apply Xi)); exact HO251.out) (by decide)) hk (fun _ h => h.2)) (fun _ h => h.1)); replace HB := Aside0.mk (hb); replace HI248 := Aside0.mk (hi); (try clear hb hk hi)))
  go_ret
  exact ⟨_, by first | rfl | (simp [*, errW_none, errW_some] <;> rfl), by first | exact Kd.R_nil _ _ _ _ _ | exact Kd.N_nil _ _ _ _ _ | exact Kd.V_nil _ _ _ _ _ | exact Kd.Q_nil _ _ _ _ _ | exact Kd.S_nil _ _ _ _ _, by repeat (first | (with_reducible first | exact HB.out | apply Xc | apply Xa | apply Xb | refine Xe ?_ (IsS45.ge HI248.out)) | exact HB.out)⟩
 ·rw [if_neg c4] at H
  have c4b0 : (t254 == 0) = false := beq_eq_false_iff_ne.mpr c4
  have c4b1 : (t254 != 0) = true := bne_iff_ne.mpr c4
  by_cases c8 : t254 = 1
  ·rw [if_pos c8] at H
   have c8b0 : (t254 == 1) = true := beq_iff_eq.mpr c8
   have c8b1 : (t254 != 1) = false := bne_eq_false_iff_eq.mpr c8
   clear c8
   obtain ⟨y257, hy257⟩ : ∃ y_ : List Int, y_ = (([(-1), 0, 1, 2000, 2001, 4611686018427387904] : List Int)) := ⟨_, rfl⟩
   replace H : ((spec_l1Cur_among.f l0 t255 t256 y257).bind fun bt260 => (if t249.length < 17592186044416 then (some (t249 ++ [bt260.1])) else (none))) = some r := by first | (rw [hy257]; with_reducible exact H) | (have H2_ := (Option.bind_some _ _).symm.trans H; rw [hy257]; with_reducible exact H2_) | (have H2_ := (Option.bind_some _ _).symm.trans H; with_reducible exact H2_) | with_reducible exact H | (rw [hy257]; exact H) | exact H
   have Ny257 := Aside0.mk hy257
   clear hy257
   replace H := Xs.mp H
   obtain ⟨⟨t260, t261, t262⟩, A90, H⟩ := H
   (try dsimp only at H)
   have A9 := Aside0.mk A90
   clear A90
   by_cases c10 : t249.length < 17592186044416
   ·rw [if_pos c10] at H
    have LMc10 := Aside0.mk c10
    clear c10
    obtain ⟨y263, hy263⟩ : ∃ y_ : List Int, y_ = (t249 ++ [t260]) := ⟨_, rfl⟩
    replace H : (some y263) = some r := by first | (rw [hy263]; with_reducible exact H) | (have H2_ := (Option.bind_some _ _).symm.trans H; rw [hy263]; with_reducible exact H2_) | (have H2_ := (Option.bind_some _ _).symm.trans H; with_reducible exact H2_) | with_reducible exact H | (rw [hy263]; exact H) | exact H
    have Ny263 := Aside0.mk hy263
    clear hy263
    obtain rfl := Option.some.inj H
    go_enter Tryz.func21, Tryz.ntmps21
    go_wp2_with (first | ((with_reducible refine gate_dst (N := 8) rfl ?_); refine box_event ?hg (N := 8) ?hd (cs := #[.slice A0 l0.length c0, .int .i64 0, .int .u64 0]) (t := 45) ?hr ?_; (case hd => rfl); (case hg => rfl); (case hr => first | (go_simp; done) | (go_simp; rfl)); intro g248 hg w11 hbox hb2; have hi := (show IsS45 w w11 g248 l0 0 0 from ⟨_, _, hbox, (by rw [hg]; exact (Xf (by repeat (with_reducible first | exact HB.out | apply Xc | apply Xa | apply Xb)))), HR0.out⟩); replace HB := Aside0.mk (Xd (by repeat (with_reducible first | exact HB.out | apply Xc | apply Xa | apply Xb)) hb2); replace HI248 := Aside0.mk (hi); (try clear hb2); (try clear hi); (try clear hbox); (try clear hg)) | ((with_reducible refine gate_callee (f := 48) rfl ?_); refine goesL_ (some 10) rfl rfl Tryz.func48 (by kernel_rfl) rfl #[.pointer (some ⟨g248, 0, none⟩)] rfl (by (try simp only [Xp, Xq, Xr]); first | done | rfl) ?_; (with_reducible refine (spec_l1Cur_surePages.calls k g248 l0 0 0 t249 t252 t253 w _ ?side1 ?side2 A2.out).mono ?_); (case side1 => repeat (with_reducible first | exact HI248.out | apply IsS45.alloc | apply IsS45.drewN | apply IsS45.drew | apply IsS45.set_1 | apply IsS45.set_2)); (case side2 => repeat (first | (with_reducible first | exact HB.out | apply Xc | apply Xa | apply Xb | refine Xe ?_ (IsS45.ge HI248.out)) | exact HB.out)); rintro e w12 ⟨v250, rfl, ho0, hi, hb, hk⟩; refine ⟨_, rfl, ?_⟩; replace HO251 := Aside0.mk (Kd.R_lower ho0 (Xf (by repeat (first | (with_reducible first | exact HB.out | apply Xc | apply Xa | apply Xb | refine Xe ?_ (IsS45.ge HI248.out)) | exact HB.out)))); replace HB := Aside0.mk (hb); replace HI248 := Aside0.mk (hi); (try clear hb hk hi); (try clear ho0)) | ((with_reducible refine gate_callee (f := 31) rfl ?_); refine goesL_ (some 12) rfl rfl Tryz.func31 (by kernel_rfl) rfl #[.pointer (some ⟨g248, 0, none⟩), .int .i64 14] rfl (by (try simp only [Xp, Xq, Xr]); first | done | rfl) ?_; (with_reducible refine (spec_l1Cur_pick.calls g248 l0 t252 t253 14 t254 t255 t256 w _ ?side1 ?side2 A3.out).mono ?_); (case side1 => repeat (with_reducible first | exact HI248.out | apply IsS45.alloc | apply IsS45.drewN | apply IsS45.drew | apply IsS45.set_1 | apply IsS45.set_2)); (case side2 => repeat (first | (with_reducible first | exact HB.out | apply Xc | apply Xa | apply Xb | refine Xe ?_ (IsS45.ge HI248.out)) | exact HB.out)); rintro e w13 ⟨rfl, hi, hb, hk⟩; refine ⟨_, rfl, ?_⟩; replace HO251 := Aside0.mk (Kd.R_mono (Kd.R_keep (IsS45.apart (show IsS45 w _ g248 l0 t252 t253 from by repeat (with_reducible first | exact HI248.out | apply IsS45.alloc | apply IsS45.drewN | apply IsS45.drew | apply IsS45.set_1 | apply IsS45.set_2)) (by (with_reducible repeat (first | apply Xg | apply Xh | apply Xi)); exact HO251.out) (by decide)) hk (fun _ h => h.2)) (fun _ h => h.1)); replace HB := Aside0.mk (hb); replace HI248 := Aside0.mk (hi); (try clear hb hk hi)) | ((with_reducible refine gate_dst (N := 19) rfl ?_); refine Kd.R_lit (Kd.int .i64) _ 3 ?hg (N := 19) ?hd (xs := ([(-1), 0, 1, 2000, 2001, 4611686018427387904] : List Int)) (inner := [.int .i64 (-1), .int .i64 0, .int .i64 1, .int .i64 2000, .int .i64 2001, .int .i64 4611686018427387904]) (ok := fun _ => True) (okp := fun _ => True) ?hr ?hp (fun _ hk => hk) trivial (Below.refl _ _) (Nat.le_refl _) (by simp) ?_; (case hd => rfl); (case hg => rfl); (case hr => first | (go_simp; done) | (go_simp; rfl)); (case hp => exact (Reps.one (show Kd.M (Kd.int .i64) _ _ _ (-1) [.int .i64 (-1)] from rfl) (Reps.one (show Kd.M (Kd.int .i64) _ _ _ 0 [.int .i64 0] from rfl) (Reps.one (show Kd.M (Kd.int .i64) _ _ _ 1 [.int .i64 1] from rfl) (Reps.one (show Kd.M (Kd.int .i64) _ _ _ 2000 [.int .i64 2000] from rfl) (Reps.one (show Kd.M (Kd.int .i64) _ _ _ 2001 [.int .i64 2001] from rfl) (Reps.one (show Kd.M (Kd.int .i64) _ _ _ 4611686018427387904 [.int .i64 4611686018427387904] from rfl) (Reps.none _ _)))))))); intro v258 w14 ho15 hb hg_ hnew_; clear hg_ hnew_; (first | rw [← Ny257.out] at ho15 | (simp only [Int.reduceToNat] at ho15; rw [← Ny257.out] at ho15)); replace HO259 := Aside0.mk (Kd.R_lower (Kd.R_new' ho15 (Kd.R_lt (by (with_reducible repeat (first | apply Xg | apply Xh | apply Xi)); exact HO251.out))) (Xf (by repeat (first | (with_reducible first | exact HB.out | apply Xc | apply Xa | apply Xb | refine Xe ?_ (IsS45.ge HI248.out)) | exact HB.out)))); replace HO251 := Aside0.mk (Xy (by (with_reducible repeat (first | apply Xg | apply Xh | apply Xi)); exact HO251.out) (Kd.R_base ho15) hb); replace HB := Aside0.mk (Xd (by repeat (first | (with_reducible first | exact HB.out | apply Xc | apply Xa | apply Xb | refine Xe ?_ (IsS45.ge HI248.out)) | exact HB.out)) hb); replace HI248 := Aside0.mk (IsS45.below (by repeat (with_reducible first | exact HI248.out | apply IsS45.alloc | apply IsS45.drewN | apply IsS45.drew | apply IsS45.set_1 | apply IsS45.set_2)) hb); clear hb ho15; obtain ⟨Ao16, co16, eo16⟩ := Kd.R_slice HO259.out; subst eo16) | ((with_reducible refine gate_callee (f := 44) rfl ?_); refine goesL_ (some 20) rfl rfl Tryz.func44 (by kernel_rfl) rfl #[.pointer (some ⟨g248, 0, none⟩), .slice Ao16 y257.length co16] rfl (by (try simp only [Xp, Xq, Xr]); first | done | rfl) ?_; (with_reducible refine (spec_l1Cur_among.calls g248 l0 t255 t256 _ _ y257 t260 t261 t262 w _ ?side1 ?side2 ?side3 ?side4 ?side5 A9.out).mono ?_); (case side1 => repeat (with_reducible first | exact HI248.out | apply IsS45.alloc | apply IsS45.drewN | apply IsS45.drew | apply IsS45.set_1 | apply IsS45.set_2)); (case side2 => repeat (first | (with_reducible first | exact HB.out | apply Xc | apply Xa | apply Xb | refine Xe ?_ (IsS45.ge HI248.out)) | exact HB.out)); (case side3 => repeat (first | exact (Kd.R_reads' HO259.out).2.2 | (with_reducible refine Xj ?_ _) | (with_reducible refine Xk ?_ _) | (with_reducible refine Xl ?_))); (case side4 => exact (Kd.R_reads' HO259.out).2.1); (case side5 => exact far_slice (IsS45.own_ne HI248.out HO259.out (by decide))); rintro e w17 ⟨rfl, hi, hb, hk⟩; refine ⟨_, rfl, ?_⟩; replace HO251 := Aside0.mk (Kd.R_mono (Kd.R_keep (IsS45.apart (show IsS45 w _ g248 l0 t255 t256 from by repeat (with_reducible first | exact HI248.out | apply IsS45.alloc | apply IsS45.drewN | apply IsS45.drew | apply IsS45.set_1 | apply IsS45.set_2)) (by (with_reducible repeat (first | apply Xg | apply Xh | apply Xi)); exact HO251.out) (by decide)) hk (fun _ h => h.2)) (fun _ h => h.1)); replace HO259 := Aside0.mk (Kd.R_mono (Kd.R_keep (IsS45.apart (show IsS45 w _ g248 l0 t255 t256 from by repeat (with_reducible first | exact HI248.out | apply IsS45.alloc | apply IsS45.drewN | apply IsS45.drew | apply IsS45.set_1 | apply IsS45.set_2)) (by (with_reducible repeat (first | apply Xg | apply Xh | apply Xi)); exact HO259.out) (by decide)) hk (fun _ h => h.2)) (fun _ h => h.1)); replace HB := Aside0.mk (hb); replace HI248 := Aside0.mk (hi); (try clear hb hk hi)) | ((with_reducible refine gate_builtin (b := .append) (xs := #[.tmp 17, .tmp 21]) rfl ?_); at_builtin; refine Kd.R_append (Kd.int .i64) (w0 := w) w.heap.size rfl (.tmp 17) (.tmp 21) 32 3 (.int .i64 0) 8 rfl Tryz.underlying32 info3 rfl (by decide) (by omega) v250 t249 t260 [.int .i64 t260] (fun k_ => some k_ ≠ (.slice Ao16 y257.length co16 : Value).ownBlock) (fun _ => False) rfl rfl ?aP (fun _ hk => hk.elim) ?aF ?aO ?aB ?aS ?aL ?_; (case aP => exact rfl); (case aB => exact (by repeat (first | (with_reducible first | exact HB.out | apply Xc | apply Xa | apply Xb | refine Xe ?_ (IsS45.ge HI248.out)) | exact HB.out))); (case aF => exact (fun k_ hk => Kd.fresh' (Kd.R_lt (by (with_reducible repeat (first | apply Xg | apply Xh | apply Xi)); exact HO259.out)) k_ hk)); (case aO => exact (by (with_reducible repeat (first | apply Xg | apply Xh | apply Xi)); exact Kd.R_mono HO251.out (fun _ hk => hk.2))); (case aS => exact (Xf (by repeat (first | (with_reducible first | exact HB.out | apply Xc | apply Xa | apply Xb | refine Xe ?_ (IsS45.ge HI248.out)) | exact HB.out)))); (case aL => have := LMc10.out; omega); intro v264 w18 ho hb hg hat; rw [← Ny263.out] at ho; replace HI248 := Aside0.mk (IsS45.grown (by repeat (with_reducible first | exact HI248.out | apply IsS45.alloc | apply IsS45.drewN | apply IsS45.drew | apply IsS45.set_1 | apply IsS45.set_2)) hg (IsS45.own_ne HI248.out HO251.out (by decide))); replace HO259 := Aside0.mk (Kd.R_after (ok := (fun _ => True)) (by (with_reducible repeat (first | apply Xg | apply Xh | apply Xi)); exact HO259.out) hg hat); replace HB := Aside0.mk (hb); replace HO265 := Aside0.mk (ho); clear ho hb hg hat))
    go_ret
    exact ⟨_, by first | rfl | (simp [*, errW_none, errW_some] <;> rfl), by (with_reducible repeat (first | apply Xg | apply Xh | apply Xi)); exact Kd.R_mono HO265.out (fun _ hk => trivial), by repeat (first | (with_reducible first | exact HB.out | apply Xc | apply Xa | apply Xb | refine Xe ?_ (IsS45.ge HI248.out)) | exact HB.out)⟩
   ·rw [if_neg c10] at H
    exact absurd H (by simp)
  ·rw [if_neg c8] at H
   have c8b0 : (t254 == 1) = false := beq_eq_false_iff_ne.mpr c8
   have c8b1 : (t254 != 1) = true := bne_iff_ne.mpr c8
   by_cases c19 : t254 = 2
   ·rw [if_pos c19] at H
    have c19b0 : (t254 == 2) = true := beq_iff_eq.mpr c19
    have c19b1 : (t254 != 2) = false := bne_eq_false_iff_eq.mpr c19
    clear c19
    have H' := Aside0.mk H
    clear H
    go_enter Tryz.func21, Tryz.ntmps21
    go_wp2_with (first | ((with_reducible refine gate_dst (N := 8) rfl ?_); refine box_event ?hg (N := 8) ?hd (cs := #[.slice A0 l0.length c0, .int .i64 0, .int .u64 0]) (t := 45) ?hr ?_; (case hd => rfl); (case hg => rfl); (case hr => first | (go_simp; done) | (go_simp; rfl)); intro g248 hg w20 hbox hb2; have hi := (show IsS45 w w20 g248 l0 0 0 from ⟨_, _, hbox, (by rw [hg]; exact (Xf (by repeat (with_reducible first | exact HB.out | apply Xc | apply Xa | apply Xb)))), HR0.out⟩); replace HB := Aside0.mk (Xd (by repeat (with_reducible first | exact HB.out | apply Xc | apply Xa | apply Xb)) hb2); replace HI248 := Aside0.mk (hi); (try clear hb2); (try clear hi); (try clear hbox); (try clear hg)) | ((with_reducible refine gate_callee (f := 48) rfl ?_); refine goesL_ (some 10) rfl rfl Tryz.func48 (by kernel_rfl) rfl #[.pointer (some ⟨g248, 0, none⟩)] rfl (by (try simp only [Xp, Xq, Xr]); first | done | rfl) ?_; (with_reducible refine (spec_l1Cur_surePages.calls k g248 l0 0 0 t249 t252 t253 w _ ?side1 ?side2 A2.out).mono ?_); (case side1 => repeat (with_reducible first | exact HI248.out | apply IsS45.alloc | apply IsS45.drewN | apply IsS45.drew | apply IsS45.set_1 | apply IsS45.set_2)); (case side2 => repeat (first | (with_reducible first | exact HB.out | apply Xc | apply Xa | apply Xb | refine Xe ?_ (IsS45.ge HI248.out)) | exact HB.out)); rintro e w21 ⟨v250, rfl, ho0, hi, hb, hk⟩; refine ⟨_, rfl, ?_⟩; replace HO251 := Aside0.mk (Kd.R_lower ho0 (Xf (by repeat (first | (with_reducible first | exact HB.out | apply Xc | apply Xa | apply Xb | refine Xe ?_ (IsS45.ge HI248.out)) | exact HB.out)))); replace HB := Aside0.mk (hb); replace HI248 := Aside0.mk (hi); (try clear hb hk hi); (try clear ho0)) | ((with_reducible refine gate_callee (f := 31) rfl ?_); refine goesL_ (some 12) rfl rfl Tryz.func31 (by kernel_rfl) rfl #[.pointer (some ⟨g248, 0, none⟩), .int .i64 14] rfl (by (try simp only [Xp, Xq, Xr]); first | done | rfl) ?_; (with_reducible refine (spec_l1Cur_pick.calls g248 l0 t252 t253 14 t254 t255 t256 w _ ?side1 ?side2 A3.out).mono ?_); (case side1 => repeat (with_reducible first | exact HI248.out | apply IsS45.alloc | apply IsS45.drewN | apply IsS45.drew | apply IsS45.set_1 | apply IsS45.set_2)); (case side2 => repeat (first | (with_reducible first | exact HB.out | apply Xc | apply Xa | apply Xb | refine Xe ?_ (IsS45.ge HI248.out)) | exact HB.out)); rintro e w22 ⟨rfl, hi, hb, hk⟩; refine ⟨_, rfl, ?_⟩; replace HO251 := Aside0.mk (Kd.R_mono (Kd.R_keep (IsS45.apart (show IsS45 w _ g248 l0 t252 t253 from by repeat (with_reducible first | exact HI248.out | apply IsS45.alloc | apply IsS45.drewN | apply IsS45.drew | apply IsS45.set_1 | apply IsS45.set_2)) (by (with_reducible repeat (first | apply Xg | apply Xh | apply Xi)); exact HO251.out) (by decide)) hk (fun _ h => h.2)) (fun _ h => h.1)); replace HB := Aside0.mk (hb); replace HI248 := Aside0.mk (hi); (try clear hb hk hi); obtain ⟨Ao23, co23, eo23⟩ := Kd.R_slice HO251.out; subst eo23))
    go_loopg [4, 5] k (fun kq v4 v5 w' => ∃ (x4_1 : List Int) (x5_1 : Int) (x249001_1 : Int) (x249002_1 : Int), v5 = .int .i64 x5_1 ∧ Aside0 (spec_DrawPagesText.l0 kq x4_1 x5_1 l0 x249001_1 x249002_1 = some r) ∧ Aside0 (kq ≤ k) ∧ Aside0 (Kd.R (Kd.int .i64) 3 w' w.heap.size (fun _ => True) v4 x4_1) ∧ Aside0 (IsS45 w w' g248 l0 x249001_1 x249002_1) ∧ Aside0 (Below w.heap.size w w'))
    case atStart => exact ⟨(t249), ((t249.length : Int)), (t255), (t256), (by first | rfl | simp | simp [*]), H', ⟨Nat.le_refl _⟩, ⟨by (with_reducible repeat (first | apply Xg | apply Xh | apply Xi)); exact HO251.out⟩, ⟨by repeat (with_reducible first | exact HI248.out | apply IsS45.alloc | apply IsS45.drewN | apply IsS45.drew | apply IsS45.set_1 | apply IsS45.set_2)⟩, ⟨by repeat (first | (with_reducible first | exact HB.out | apply Xc | apply Xa | apply Xb | refine Xe ?_ (IsS45.ge HI248.out)) | exact HB.out)⟩⟩
    case round =>
     clear H'
     try clear c1; try clear c2; try clear p2; try clear c3; try clear c4; try clear c4b0; try clear c4b1; try clear c8; try clear c8b0; try clear c8b1; try clear c10; try clear c19; try clear c19b0; try clear c19b1; try clear c21
     obtain ⟨x4_1, x5_1, x249001_1, x249002_1, rfl, HA, HK1, HO_4, HI248, HB⟩ := hrel
     cases gk with
     | zero => exact absurd HA.out (by simp [spec_DrawPagesText.l0])
     | succ k1 =>
      have H := HA.out
      clear HA
      simp only [spec_DrawPagesText.l0] at H
      replace H := Xs.mp H
      obtain ⟨⟨t266, t267, t268⟩, A240, H⟩ := H
      (try dsimp only at H)
      have A24 := Aside0.mk A240
      clear A240
      by_cases c25 : x5_1 < (wrap64 (20 + t266))
      ·rw [if_pos c25] at H
       have c25b0 : decide (x5_1 < (wrap64 (20 + t266))) = true := decide_eq_true c25
       clear c25
       obtain ⟨ji26, hji26⟩ : ∃ j_ : Int, (wrap64 (x5_1 - 1)) = j_ := ⟨_, rfl⟩
       replace H : (if 0 ≤ (ji26) then (if (ji26) < (x4_1.length : Int) then (if x4_1.length < 17592186044416 then (spec_DrawPagesText.l0 k1 (x4_1 ++ [wrap64 ((rd x4_1 (ji26)) + 1)]) (wrap64 (x5_1 + 1)) l0 t267 t268) else (none)) else (none)) else (none)) = some r := by first | (rw [hji26] at H; exact H) | (simp only [hji26] at H ⊢; exact H)
       (try rw [hji26] at A24)
       have hji26w : (IntKind.i64.wrap (x5_1 - 1)) = ji26 := (i64_w _).trans hji26
       by_cases c27 : 0 ≤ (ji26)
       ·rw [if_pos c27] at H
        have c27b0 : decide (0 ≤ (ji26)) = true := decide_eq_true c27
        clear c27
        by_cases c28 : (ji26) < (x4_1.length : Int)
        ·rw [if_pos c28] at H
         have c28b0 : decide ((ji26) < (x4_1.length : Int)) = true := decide_eq_true c28
         clear c28
         by_cases c29 : x4_1.length < 17592186044416
         ·rw [if_pos c29] at H
          have LMc29 := Aside0.mk c29
          clear c29
          obtain ⟨y270, hy270⟩ : ∃ y_ : List Int, y_ = (x4_1 ++ [wrap64 ((rd x4_1 (ji26)) + 1)]) := ⟨_, rfl⟩
          replace H : (spec_DrawPagesText.l0 k1 y270 (wrap64 (x5_1 + 1)) l0 t267 t268) = some r := by first | (rw [hy270]; with_reducible exact H) | (have H2_ := (Option.bind_some _ _).symm.trans H; rw [hy270]; with_reducible exact H2_) | (have H2_ := (Option.bind_some _ _).symm.trans H; with_reducible exact H2_) | with_reducible exact H | (rw [hy270]; exact H) | exact H
          have Ny270 := Aside0.mk hy270
          clear hy270
          have H' := Aside0.mk H
          clear H
          go_wp2_with (first | ((with_reducible refine gate_callee (f := 31) rfl ?_); refine goesL_ (some 29) rfl rfl Tryz.func31 (by kernel_rfl) rfl #[.pointer (some ⟨g248, 0, none⟩), .int .i64 2] rfl (by (try simp only [Xp, Xq, Xr]); first | done | rfl) ?_; (with_reducible refine (spec_l1Cur_pick.calls g248 l0 x249001_1 x249002_1 2 t266 t267 t268 w _ ?side1 ?side2 A24.out).mono ?_); (case side1 => repeat (with_reducible first | exact HI248.out | apply IsS45.alloc | apply IsS45.drewN | apply IsS45.drew | apply IsS45.set_1 | apply IsS45.set_2)); (case side2 => repeat (first | (with_reducible first | exact HB.out | apply Xc | apply Xa | apply Xb | refine Xe ?_ (IsS45.ge HI248.out)) | exact HB.out)); rintro e w30 ⟨rfl, hi, hb, hk⟩; refine ⟨_, rfl, ?_⟩; replace HO_4 := Aside0.mk (Kd.R_mono (Kd.R_keep (IsS45.apart (show IsS45 w _ g248 l0 x249001_1 x249002_1 from by repeat (with_reducible first | exact HI248.out | apply IsS45.alloc | apply IsS45.drewN | apply IsS45.drew | apply IsS45.set_1 | apply IsS45.set_2)) (by (with_reducible repeat (first | apply Xg | apply Xh | apply Xi)); exact HO_4.out) (by decide)) hk (fun _ h => h.2)) (fun _ h => h.1)); replace HB := Aside0.mk (hb); replace HI248 := Aside0.mk (hi); (try clear hb hk hi); obtain ⟨Ao31, co31, eo31⟩ := Kd.R_slice HO_4.out; subst eo31; have p269 : 0 ≤ ((ji26) : Int) := Xz (by first | (with_reducible assumption) | assumption); have q269 : (ji26) < (x4_1.length : Int) := Xz (by first | (with_reducible assumption) | assumption); obtain ⟨ad269, e269, hx269_0⟩ := Kd.at_int (Kd.R_reads' HO_4.out).2.2 (ji26) p269 q269; cases e269; replace p269 := eq_true p269; replace q269 := eq_true q269) | ((with_reducible refine gate_builtin (b := .append) (xs := #[.tmp 34, .tmp 41]) rfl ?_); at_builtin; refine Kd.R_append (Kd.int .i64) (w0 := w) w.heap.size rfl (.tmp 34) (.tmp 41) 32 3 (.int .i64 0) 8 rfl Tryz.underlying32 info3 rfl (by decide) (by omega) (.slice (some ad269) x4_1.length co31) x4_1 (wrap64 ((rd x4_1 (ji26)) + 1)) [.int .i64 (wrap64 ((rd x4_1 (ji26)) + 1))] (fun _ => True) (fun _ => False) rfl rfl ?aP (fun _ hk => hk.elim) ?aF ?aO ?aB ?aS ?aL ?_; (case aP => exact rfl); (case aB => exact (by repeat (first | (with_reducible first | exact HB.out | apply Xc | apply Xa | apply Xb | refine Xe ?_ (IsS45.ge HI248.out)) | exact HB.out))); (case aF => exact (fun _ _ => trivial)); (case aO => exact (by (with_reducible repeat (first | apply Xg | apply Xh | apply Xi)); exact HO_4.out)); (case aS => exact (Xf (by repeat (first | (with_reducible first | exact HB.out | apply Xc | apply Xa | apply Xb | refine Xe ?_ (IsS45.ge HI248.out)) | exact HB.out)))); (case aL => have := LMc29.out; omega); intro v271 w32 ho hb hg hat; rw [← Ny270.out] at ho; replace HI248 := Aside0.mk (IsS45.grown (by repeat (with_reducible first | exact HI248.out | apply IsS45.alloc | apply IsS45.drewN | apply IsS45.drew | apply IsS45.set_1 | apply IsS45.set_2)) hg (IsS45.own_ne HI248.out HO_4.out (by decide))); replace HB := Aside0.mk (hb); replace HO272 := Aside0.mk (ho); clear ho hb hg hat))
          go_roundg k1
          case measure => have := HK1.out; omega
          case rel => exact ⟨(y270), (wrap64 (x5_1 + 1)), (t267), (t268), (by first | rfl | simp | simp [*]), H', ⟨by have := HK1.out; omega⟩, ⟨by (with_reducible repeat (first | apply Xg | apply Xh | apply Xi)); exact HO272.out⟩, ⟨by repeat (with_reducible first | exact HI248.out | apply IsS45.alloc | apply IsS45.drewN | apply IsS45.drew | apply IsS45.set_1 | apply IsS45.set_2)⟩, ⟨by repeat (first | (with_reducible first | exact HB.out | apply Xc | apply Xa | apply Xb | refine Xe ?_ (IsS45.ge HI248.out)) | exact HB.out)⟩⟩
         ·rw [if_neg c29] at H
          exact absurd H (by simp)
        ·rw [if_neg c28] at H
         exact absurd H (by simp)
       ·rw [if_neg c27] at H
        exact absurd H (by simp)
      ·rw [if_neg c25] at H
       have c25b0 : decide (x5_1 < (wrap64 (20 + t266))) = false := decide_eq_false c25
       clear c25
       obtain rfl := Option.some.inj H
       go_wp2_with (first | ((with_reducible refine gate_callee (f := 31) rfl ?_); refine goesL_ (some 29) rfl rfl Tryz.func31 (by kernel_rfl) rfl #[.pointer (some ⟨g248, 0, none⟩), .int .i64 2] rfl (by (try simp only [Xp, Xq, Xr]); first | done | rfl) ?_; (with_reducible refine (spec_l1Cur_pick.calls g248 l0 x249001_1 x249002_1 2 t266 t267 t268 w _ ?side1 ?side2 A24.out).mono ?_); (case side1 => repeat (with_reducible first | exact HI248.out | apply IsS45.alloc | apply IsS45.drewN | apply IsS45.drew | apply IsS45.set_1 | apply IsS45.set_2)); (case side2 => repeat (first | (with_reducible first | exact HB.out | apply Xc | apply Xa | apply Xb | refine Xe ?_ (IsS45.ge HI248.out)) | exact HB.out)); rintro e w33 ⟨rfl, hi, hb, hk⟩; refine ⟨_, rfl, ?_⟩; replace HO_4 := Aside0.mk (Kd.R_mono (Kd.R_keep (IsS45.apart (show IsS45 w _ g248 l0 x249001_1 x249002_1 from by repeat (with_reducible first | exact HI248.out | apply IsS45.alloc | apply IsS45.drewN | apply IsS45.drew | apply IsS45.set_1 | apply IsS45.set_2)) (by (with_reducible repeat (first | apply Xg | apply Xh | apply Xi)); exact HO_4.out) (by decide)) hk (fun _ h => h.2)) (fun _ h => h.1)); replace HB := Aside0.mk (hb); replace HI248 := Aside0.mk (hi); (try clear hb hk hi)))
       go_ret
       exact ⟨_, by first | rfl | (simp [*, errW_none, errW_some] <;> rfl), by (with_reducible repeat (first | apply Xg | apply Xh | apply Xi)); exact HO_4.out, by repeat (first | (with_reducible first | exact HB.out | apply Xc | apply Xa | apply Xb | refine Xe ?_ (IsS45.ge HI248.out)) | exact HB.out)⟩
   ·rw [if_neg c19] at H
    have c19b0 : (t254 == 2) = false := beq_eq_false_iff_ne.mpr c19
    have c19b1 : (t254 != 2) = true := bne_iff_ne.mpr c19
    obtain rfl := Option.some.inj H
    go_enter Tryz.func21, Tryz.ntmps21
    go_wp2_with (first | ((with_reducible refine gate_dst (N := 8) rfl ?_); refine box_event ?hg (N := 8) ?hd (cs := #[.slice A0 l0.length c0, .int .i64 0, .int .u64 0]) (t := 45) ?hr ?_; (case hd => rfl); (case hg => rfl); (case hr => first | (go_simp; done) | (go_simp; rfl)); intro g248 hg w34 hbox hb2; have hi := (show IsS45 w w34 g248 l0 0 0 from ⟨_, _, hbox, (by rw [hg]; exact (Xf (by repeat (with_reducible first | exact HB.out | apply Xc | apply Xa | apply Xb)))), HR0.out⟩); replace HB := Aside0.mk (Xd (by repeat (with_reducible first | exact HB.out | apply Xc | apply Xa | apply Xb)) hb2); replace HI248 := Aside0.mk (hi); (try clear hb2); (try clear hi); (try clear hbox); (try clear hg)) | ((with_reducible refine gate_callee (f := 48) rfl ?_); refine goesL_ (some 10) rfl rfl Tryz.func48 (by kernel_rfl) rfl #[.pointer (some ⟨g248, 0, none⟩)] rfl (by (try simp only [Xp, Xq, Xr]); first | done | rfl) ?_; (with_reducible refine (spec_l1Cur_surePages.calls k g248 l0 0 0 t249 t252 t253 w _ ?side1 ?side2 A2.out).mono ?_); (case side1 => repeat (with_reducible first | exact HI248.out | apply IsS45.alloc | apply IsS45.drewN | apply IsS45.drew | apply IsS45.set_1 | apply IsS45.set_2)); (case side2 => repeat (first | (with_reducible first | exact HB.out | apply Xc | apply Xa | apply Xb | refine Xe ?_ (IsS45.ge HI248.out)) | exact HB.out)); rintro e w35 ⟨v250, rfl, ho0, hi, hb, hk⟩; refine ⟨_, rfl, ?_⟩; replace HO251 := Aside0.mk (Kd.R_lower ho0 (Xf (by repeat (first | (with_reducible first | exact HB.out | apply Xc | apply Xa | apply Xb | refine Xe ?_ (IsS45.ge HI248.out)) | exact HB.out)))); replace HB := Aside0.mk (hb); replace HI248 := Aside0.mk (hi); (try clear hb hk hi); (try clear ho0)) | ((with_reducible refine gate_callee (f := 31) rfl ?_); refine goesL_ (some 12) rfl rfl Tryz.func31 (by kernel_rfl) rfl #[.pointer (some ⟨g248, 0, none⟩), .int .i64 14] rfl (by (try simp only [Xp, Xq, Xr]); first | done | rfl) ?_; (with_reducible refine (spec_l1Cur_pick.calls g248 l0 t252 t253 14 t254 t255 t256 w _ ?side1 ?side2 A3.out).mono ?_); (case side1 => repeat (with_reducible first | exact HI248.out | apply IsS45.alloc | apply IsS45.drewN | apply IsS45.drew | apply IsS45.set_1 | apply IsS45.set_2)); (case side2 => repeat (first | (with_reducible first | exact HB.out | apply Xc | apply Xa | apply Xb | refine Xe ?_ (IsS45.ge HI248.out)) | exact HB.out)); rintro e w36 ⟨rfl, hi, hb, hk⟩; refine ⟨_, rfl, ?_⟩; replace HO251 := Aside0.mk (Kd.R_mono (Kd.R_keep (IsS45.apart (show IsS45 w _ g248 l0 t252 t253 from by repeat (with_reducible first | exact HI248.out | apply IsS45.alloc | apply IsS45.drewN | apply IsS45.drew | apply IsS45.set_1 | apply IsS45.set_2)) (by (with_reducible repeat (first | apply Xg | apply Xh | apply Xi)); exact HO251.out) (by decide)) hk (fun _ h => h.2)) (fun _ h => h.1)); replace HB := Aside0.mk (hb); replace HI248 := Aside0.mk (hi); (try clear hb hk hi)))
    go_ret
    exact ⟨_, by first | rfl | (simp [*, errW_none, errW_some] <;> rfl), by (with_reducible repeat (first | apply Xg | apply Xh | apply Xi)); exact HO251.out, by repeat (first | (with_reducible first | exact HB.out | apply Xc | apply Xa | apply Xb | refine Xe ?_ (IsS45.ge HI248.out)) | exact HB.out)⟩

/-! ### impl_allWithin: function 62 -/
def impl_allWithin.l0 : Nat → Int → Int → List Int → Int → Int → Option (Bool)
 | 0, _, _, _, _, _ => none
 | k + 1, x1, x2, x9, x10, x11 => if x11 < x10 then (if 0 ≤ x11 then (if x11 < (x9.length : Int) then ((impl_within.f (rd x9 x11) x1 x2).bind fun t274 => (if t274 = true then (impl_allWithin.l0 k x1 x2 x9 x10 (wrap64 (x11 + 1))) else (some false))) else (none)) else (none)) else (some true)
def impl_allWithin.f (k : Nat) (l0 : List Int) (a1 : Int) (a2 : Int) : Option (Bool) := impl_allWithin.l0 k a1 a2 l0 (l0.length : Int) 0
set_option maxHeartbeats 8000000 in
set_option maxRecDepth 100000 in
theorem impl_allWithin.calls (k : Nat) (A0 : Option Addr) (c0 : Nat) (l0 : List Int) (a1 : Int) (a2 : Int) (r : Bool) (w : World) (hr0 : Kd.C (Kd.int .i64) w A0 l0.length l0) (hc0 : l0.length ≤ c0) (h : impl_allWithin.f k l0 a1 a2 = some r) :
  Calls Tryz.prog 62 #[.slice A0 l0.length c0, .int .i64 a1, .int .i64 a2] w fun e w' => e = .returned (.bool r) ∧ Drawn0 w w' := by
 have HR0 := Aside0.mk hr0
 have HC0 := Aside0.mk hc0
 clear hr0 hc0
 have H := h
 unfold impl_allWithin.f at H
 clear h
 have H' := Aside0.mk H
 clear H
 go_enter Tryz.func62, Tryz.ntmps62
 go_wp2
 go_loopg [11] k (fun kq v11 w' => ∃ (x11_1 : Int), v11 = .int .i64 x11_1 ∧ Aside0 (impl_allWithin.l0 kq a1 a2 l0 (l0.length : Int) x11_1 = some r) ∧ Aside0 (kq ≤ k) ∧ Drawn0 w w')
 case atStart => exact ⟨(0), (by first | rfl | simp | simp [*]), H', ⟨Nat.le_refl _⟩, by repeat (first | exact Drawn0.refl _ | apply Drawn0.step)⟩
 case round =>
  clear H'
  try clear p2
  obtain ⟨x11_1, rfl, HA, HK1, ⟨m1, rfl⟩⟩ := hrel
  cases gk with
  | zero => exact absurd HA.out (by simp [impl_allWithin.l0])
  | succ k1 =>
   have H := HA.out
   clear HA
   simp only [impl_allWithin.l0] at H
   by_cases c4 : x11_1 < (l0.length : Int)
   ·rw [if_pos c4] at H
    have c4b0 : decide (x11_1 < (l0.length : Int)) = true := decide_eq_true c4
    clear c4
    by_cases c5 : 0 ≤ x11_1
    ·rw [if_pos c5] at H
     have c5b0 : decide (0 ≤ x11_1) = true := decide_eq_true c5
     clear c5
     by_cases c6 : x11_1 < (l0.length : Int)
     ·rw [if_pos c6] at H
      have c6b0 : decide (x11_1 < (l0.length : Int)) = true := decide_eq_true c6
      clear c6
      replace H := Xs.mp H
      obtain ⟨t274, A70, H⟩ := H
      (try dsimp only at H)
      have A7 := Aside0.mk A70
      clear A70
      by_cases c8 : t274 = true
      ·subst c8
       rw [if_pos rfl] at H
       have H' := Aside0.mk H
       clear H
       have p273 : 0 ≤ (x11_1 : Int) := Xz (by first | (with_reducible assumption) | assumption)
       have q273 : x11_1 < (l0.length : Int) := Xz (by first | (with_reducible assumption) | assumption)
       obtain ⟨ad273, e273, hx273_0⟩ := Kd.at_int HR0.out x11_1 p273 q273
       cases e273
       replace p273 := eq_true p273
       replace q273 := eq_true q273
       go_wp2_with (first | ((with_reducible refine gate_callee (f := 41) rfl ?_); refine goesL_ (some 18) rfl rfl Tryz.func41 (by kernel_rfl) rfl #[.int .i64 (rd l0 x11_1), .int .i64 a1, .int .i64 a2] rfl (by (try simp only [Xp, Xq, Xr]); first | done | rfl) ?_; (with_reducible refine (impl_within.calls (rd l0 x11_1) a1 a2 true _ A7.out).mono ?_); rintro e w' ⟨rfl, ⟨nd, rfl⟩⟩; refine ⟨_, rfl, ?_⟩))
       go_roundg k1
       case measure => have := HK1.out; omega
       case rel => exact ⟨(wrap64 (x11_1 + 1)), (by first | rfl | simp | simp [*]), H', ⟨by have := HK1.out; omega⟩, by repeat (first | exact Drawn0.refl _ | apply Drawn0.step)⟩
      ·replace c8 := Bool.eq_false_iff.mpr c8
       subst c8
       rw [if_neg (show ¬ (false = true) by decide)] at H
       obtain rfl := Option.some.inj H
       have p273 : 0 ≤ (x11_1 : Int) := Xz (by first | (with_reducible assumption) | assumption)
       have q273 : x11_1 < (l0.length : Int) := Xz (by first | (with_reducible assumption) | assumption)
       obtain ⟨ad273, e273, hx273_0⟩ := Kd.at_int HR0.out x11_1 p273 q273
       cases e273
       replace p273 := eq_true p273
       replace q273 := eq_true q273
       go_wp2_with (first | ((with_reducible refine gate_callee (f := 41) rfl ?_); refine goesL_ (some 18) rfl rfl Tryz.func41 (by kernel_rfl) rfl #[.int .i64 (rd l0 x11_1), .int .i64 a1, .int .i64 a2] rfl (by (try simp only [Xp, Xq, Xr]); first | done | rfl) ?_; (with_reducible refine (impl_within.calls (rd l0 x11_1) a1 a2 false _ A7.out).mono ?_); rintro e w' ⟨rfl, ⟨nd, rfl⟩⟩; refine ⟨_, rfl, ?_⟩))
       go_ret
       exact ⟨by first | rfl | (simp; done) | (simp [*]; done), by repeat (first | exact Drawn0.refl _ | apply Drawn0.step)⟩
     ·rw [if_neg c6] at H
      exact absurd H (by simp)
    ·rw [if_neg c5] at H
     exact absurd H (by simp)
   ·rw [if_neg c4] at H
    have c4b0 : decide (x11_1 < (l0.length : Int)) = false := decide_eq_false c4
    clear c4
    obtain rfl := Option.some.inj H
    go_wp2
    go_ret
    exact ⟨by first | rfl | (simp; done) | (simp [*]; done), by repeat (first | exact Drawn0.refl _ | apply Drawn0.step)⟩

/-! ### impl_arePages: function 49 -/
def impl_arePages.l0 : Nat → List Int → Int → Option (Bool)
 | 0, _, _ => none
 | k + 1, x0, x3 => if x3 < (x0.length : Int) then (if 0 ≤ (wrap64 (x3 - 1)) then (if (wrap64 (x3 - 1)) < (x0.length : Int) then (if 0 ≤ x3 then (if (rd x0 (wrap64 (x3 - 1))) ≥ (rd x0 x3) then (some false) else (impl_arePages.l0 k x0 (wrap64 (x3 + 1)))) else (none)) else (none)) else (none)) else ((impl_within.f (x0.length : Int) 1 20).bind fun t277 => (if t277 = true then ((impl_allWithin.f k x0 1 2000).bind fun t278 => (some t278)) else (some false)))
def impl_arePages.f (k : Nat) (l0 : List Int) : Option (Bool) := impl_arePages.l0 k l0 1
set_option maxHeartbeats 8000000 in
set_option maxRecDepth 100000 in
theorem impl_arePages.calls (k : Nat) (A0 : Option Addr) (c0 : Nat) (l0 : List Int) (r : Bool) (w : World) (hr0 : Kd.C (Kd.int .i64) w A0 l0.length l0) (hc0 : l0.length ≤ c0) (h : impl_arePages.f k l0 = some r) :
  Calls Tryz.prog 49 #[.slice A0 l0.length c0] w fun e w' => e = .returned (.bool r) ∧ Drawn0 w w' := by
 have HR0 := Aside0.mk hr0
 have HC0 := Aside0.mk hc0
 clear hr0 hc0
 have H := h
 unfold impl_arePages.f at H
 clear h
 have H' := Aside0.mk H
 clear H
 go_enter Tryz.func49, Tryz.ntmps49
 go_wp2
 repeat (go_quiet (fail); try go_wp2)
 go_loopg [3] k (fun kq v3 w' => ∃ (x3_1 : Int), v3 = .int .i64 x3_1 ∧ Aside0 (impl_arePages.l0 kq l0 x3_1 = some r) ∧ Aside0 (kq ≤ k) ∧ Drawn0 w w')
 case atStart => exact ⟨(1), (by first | rfl | simp | simp [*]), H', ⟨Nat.le_refl _⟩, by repeat (first | exact Drawn0.refl _ | apply Drawn0.step)⟩
 case round =>
  clear H'
  obtain ⟨x3_1, rfl, HA, HK1, ⟨m1, rfl⟩⟩ := hrel
  cases gk with
  | zero => exact absurd HA.out (by simp [impl_arePages.l0])
  | succ k1 =>
   have H := HA.out
   clear HA
   simp only [impl_arePages.l0] at H
   by_cases c2 : x3_1 < (l0.length : Int)
   ·rw [if_pos c2] at H
    have c2b0 : decide (x3_1 < (l0.length : Int)) = true := decide_eq_true c2
    clear c2
    obtain ⟨ji3, hji3⟩ : ∃ j_ : Int, (wrap64 (x3_1 - 1)) = j_ := ⟨_, rfl⟩
    replace H : (if 0 ≤ (ji3) then (if (ji3) < (l0.length : Int) then (if 0 ≤ x3_1 then (if (rd l0 (ji3)) ≥ (rd l0 x3_1) then (some false) else (impl_arePages.l0 k1 l0 (wrap64 (x3_1 + 1)))) else (none)) else (none)) else (none)) = some r := by first | (rw [hji3] at H; exact H) | (simp only [hji3] at H ⊢; exact H)
    have hji3w : (IntKind.i64.wrap (x3_1 - 1)) = ji3 := (i64_w _).trans hji3
    by_cases c4 : 0 ≤ (ji3)
    ·rw [if_pos c4] at H
     have c4b0 : decide (0 ≤ (ji3)) = true := decide_eq_true c4
     clear c4
     by_cases c5 : (ji3) < (l0.length : Int)
     ·rw [if_pos c5] at H
      have c5b0 : decide ((ji3) < (l0.length : Int)) = true := decide_eq_true c5
      clear c5
      by_cases c6 : 0 ≤ x3_1
      ·rw [if_pos c6] at H
       have c6b0 : decide (0 ≤ x3_1) = true := decide_eq_true c6
       clear c6
       by_cases c7 : (rd l0 (ji3)) ≥ (rd l0 x3_1)
       ·rw [if_pos c7] at H
        have c7b0 : decide ((rd l0 x3_1) ≤ (rd l0 (ji3))) = true := decide_eq_true c7
        clear c7
        obtain rfl := Option.some.inj H
        have p275 : 0 ≤ ((ji3) : Int) := Xz (by first | (with_reducible assumption) | assumption)
        have q275 : (ji3) < (l0.length : Int) := Xz (by first | (with_reducible assumption) | assumption)
        obtain ⟨ad275, e275, hx275_0⟩ := Kd.at_int HR0.out (ji3) p275 q275
        cases e275
        replace p275 := eq_true p275
        replace q275 := eq_true q275
        have p276 : 0 ≤ (x3_1 : Int) := Xz (by first | (with_reducible assumption) | assumption)
        have q276 : x3_1 < (l0.length : Int) := Xz (by first | (with_reducible assumption) | assumption)
        obtain ⟨ad276, e276, hx276_0⟩ := Kd.at_int HR0.out x3_1 p276 q276
        obtain rfl : ad275 = ad276 := (by injection e276)
        replace p276 := eq_true p276
        replace q276 := eq_true q276
        go_wp2
        repeat (go_quiet (fail); try go_wp2)
        go_ret
        exact ⟨by first | rfl | (simp; done) | (simp only [← hji3] <;> (first | rfl | simp)) | (simp [*]; done), by repeat (first | exact Drawn0.refl _ | apply Drawn0.step)⟩
       ·rw [if_neg c7] at H
        have c7b0 : decide ((rd l0 x3_1) ≤ (rd l0 (ji3))) = false := decide_eq_false c7
        clear c7
        have H' := Aside0.mk H
        clear H
        have p275 : 0 ≤ ((ji3) : Int) := Xz (by first | (with_reducible assumption) | assumption)
        have q275 : (ji3) < (l0.length : Int) := Xz (by first | (with_reducible assumption) | assumption)
        obtain ⟨ad275, e275, hx275_0⟩ := Kd.at_int HR0.out (ji3) p275 q275
        cases e275
        replace p275 := eq_true p275
        replace q275 := eq_true q275
        have p276 : 0 ≤ (x3_1 : Int) := Xz (by first | (with_reducible assumption) | assumption)
        have q276 : x3_1 < (l0.length : Int) := Xz (by first | (with_reducible assumption) | assumption)
        obtain ⟨ad276, e276, hx276_0⟩ := Kd.at_int HR0.out x3_1 p276 q276
        obtain rfl : ad275 = ad276 := (by injection e276)
        replace p276 := eq_true p276
        replace q276 := eq_true q276
        go_wp2
        repeat (go_quiet (fail); try go_wp2)
        go_roundg k1
        case measure => have := HK1.out; omega
        case rel => exact ⟨(wrap64 (x3_1 + 1)), (by first | rfl | simp | simp [*]), H', ⟨by have := HK1.out; omega⟩, by repeat (first | exact Drawn0.refl _ | apply Drawn0.step)⟩
      ·rw [if_neg c6] at H
       exact absurd H (by simp)
     ·rw [if_neg c5] at H
      exact absurd H (by simp)
    ·rw [if_neg c4] at H
     exact absurd H (by simp)
   ·rw [if_neg c2] at H
    have c2b0 : decide (x3_1 < (l0.length : Int)) = false := decide_eq_false c2
    clear c2
    replace H := Xs.mp H
    obtain ⟨t277, A80, H⟩ := H
    (try dsimp only at H)
    have A8 := Aside0.mk A80
    clear A80
    by_cases c9 : t277 = true
    ·subst c9
     rw [if_pos rfl] at H
     replace H := Xs.mp H
     obtain ⟨t278, A100, H⟩ := H
     (try dsimp only at H)
     have A10 := Aside0.mk A100
     clear A100
     obtain rfl := Option.some.inj H
     go_wp2_with (first | (go_at_call 41; (with_reducible refine (impl_within.calls (l0.length : Int) 1 20 true _ A8.out).mono ?_); rintro e w' ⟨rfl, ⟨nd, rfl⟩⟩; (try first | exact ⟨rfl, _, World.drewN_drewN _ _ _⟩ | exact ⟨rfl, _, Eq.trans (World.drewN_drewN _ _ _) (congrArg (World.drewN _) (Nat.add_assoc _ _ _))⟩)) | (go_at_call 62; (with_reducible refine (impl_allWithin.calls k1 _ _ l0 1 2000 t278 _ ?side1 ?side2 A10.out).mono ?_); (case side1 => repeat (first | exact HR0.out | (with_reducible refine Xj ?_ _) | (with_reducible refine Xk ?_ _) | (with_reducible refine Xl ?_))); (case side2 => exact HC0.out); rintro e w' ⟨rfl, ⟨nd, rfl⟩⟩; (try first | exact ⟨rfl, _, World.drewN_drewN _ _ _⟩ | exact ⟨rfl, _, Eq.trans (World.drewN_drewN _ _ _) (congrArg (World.drewN _) (Nat.add_assoc _ _ _))⟩)))
     go_ret
     exact ⟨by first | rfl | (simp; done) | (simp [*]; done), by repeat (first | exact Drawn0.refl _ | apply Drawn0.step)⟩
    ·replace c9 := Bool.eq_false_iff.mpr c9
     subst c9
     rw [if_neg (show ¬ (false = true) by decide)] at H
     obtain rfl := Option.some.inj H
     go_wp2_with (first | (go_at_call 41; (with_reducible refine (impl_within.calls (l0.length : Int) 1 20 false _ A8.out).mono ?_); rintro e w' ⟨rfl, ⟨nd, rfl⟩⟩; (try first | exact ⟨rfl, _, World.drewN_drewN _ _ _⟩ | exact ⟨rfl, _, Eq.trans (World.drewN_drewN _ _ _) (congrArg (World.drewN _) (Nat.add_assoc _ _ _))⟩)))
     go_ret
     exact ⟨by first | rfl | (simp; done) | (simp [*]; done), by repeat (first | exact Drawn0.refl _ | apply Drawn0.step)⟩

/-! ### strings_Join: function 63 -/
/-- The elements one behind the other, the separator between them. -/
def strings_Join.all (l0 : List ByteArray) (a1 : ByteArray) : List UInt8 := Lib.join (l0.map (·.data.toList)) a1.data.toList
def strings_Join.f (l0 : List ByteArray) (a1 : ByteArray) : Option (ByteArray) := if (strings_Join.all l0 a1).length ≤ 140737488355328 then (if l0.length ≤ 140737488355328 then (some ⟨(strings_Join.all l0 a1).toArray⟩) else (none)) else (none)
theorem strings_Join.calls (A0 : Option Addr) (c0 : Nat) (l0 : List ByteArray) (a1 : ByteArray) (r : ByteArray) (w : World) (hr0 : Kd.C Kd.string w A0 l0.length l0) (hc0 : l0.length ≤ c0) (h : strings_Join.f l0 a1 = some r) :
  Calls Tryz.prog 63 #[.slice A0 l0.length c0, .string a1] w fun e w' => e = .returned (.string r) ∧ Below w.heap.size w w' := by
 unfold strings_Join.f at h
 by_cases hl : (strings_Join.all l0 a1).length ≤ 140737488355328
 ·rw [if_pos hl] at h
  by_cases hn : l0.length ≤ 140737488355328
  ·rw [if_pos hn] at h
   obtain rfl := Option.some.inj h
   by_cases hz : l0 = []
   ·subst hz
    refine (Tryz.strings_Join_none A0 c0 a1 w).mono ?_
    rintro e w' ⟨rfl, rfl⟩
    exact ⟨rfl, Below.refl _ _⟩
   ·have hp : 0 < l0.length := List.length_pos_iff.2 hz
    obtain ⟨ad, rfl, hcell⟩ := hr0.2.2 hp
    have hcl : ∀ (j : Nat) x, l0[j]? = some x → w.cell? (ad.add j) = some (.string x) := by
     intro j x hj
     obtain ⟨c, _, hc2, hc3⟩ := hcell j x hj
     have hc2' : c = [.string x] := hc2
     subst hc2'
     have h3 := hc3 0 _ rfl
     rw [← h3]
     congr 2
     show j = j * 1 + 0
     omega
    obtain ⟨b, off, sp⟩ := ad
    have h0 : w.cell? ⟨b, off, sp⟩ = some (.string l0[0]) := hcl 0 _ (List.getElem?_eq_getElem hp)
    have hs : sp = none := by
     cases sp with
     | none => rfl
     | some x =>
      exfalso
      unfold World.cell? at h0
      split at h0 <;> simp at h0
    subst hs
    have hc : ∀ (j : Nat) x, l0[j]? = some x → w.cell? ⟨b, off + j, none⟩ = some (.string x) := by
     intro j x hj
     rw [← hcl j x hj]
     congr 1
     unfold Addr.add
     split
     ·rename_i hj0; subst hj0; rfl
     ·rfl
    exact Tryz.strings_Join b off c0 l0 a1 w hc (Xt w _ h0) hn hc0 hl
  ·rw [if_neg hn] at h
   cases h
 ·rw [if_neg hl] at h
  cases h

end Go.Proofs.YtjkfgeigicljpaaGreatDoor.PFnPagesNumbered
