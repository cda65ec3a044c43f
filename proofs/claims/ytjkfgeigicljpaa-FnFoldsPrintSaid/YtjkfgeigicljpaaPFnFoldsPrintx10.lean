-- WRITTEN BY A PROGRAM OF THIS SESSION (xprint), out of the translation: not trusted: it is checked as any text
import Derived.Test.YtjkfgeigicljpaaPFnFoldsPrintx5
import Derived.Test.YtjkfgeigicljpaaPFnFoldsPrintx6
import Derived.Test.YtjkfgeigicljpaaPFnFoldsPrintx7
import Derived.Test.YtjkfgeigicljpaaPFnFoldsPrintx8
import Derived.Test.YtjkfgeigicljpaaPFnFoldsPrintx9
namespace Go.Proofs.Ytjkfgeigicljpaa.PFnFoldsPrint
open Go.RowKit Go.Proofs.YtjkfgeigicljpaaW.PrintWords Go.Proofs.YtjkfgeigicljpaaW.PrintLast Go.Proofs.YtjkfgeigicljpaaW.PrintMore
attribute [local go_sem] max2_int min2_int max_two min_two max_three min_three max_four min_four   -- for this text's walks alone
set_option linter.unusedVariables false
set_option linter.unusedSimpArgs false

set_option maxHeartbeats 40000000 in
set_option maxRecDepth 100000 in
theorem laws_FnFoldsPrint.calls (k : Nat) (A0 : Option Addr) (c0 : Nat) (l0 : List Int) (A1 : Option Addr) (c1 : Nat) (l1 : List Int) (w : World) (hr0 : Kd.C (Kd.int .u8) w A0 l0.length l0) (hc0 : l0.length ≤ c0) (hr1 : Kd.C (Kd.int .u8) w A1 l1.length l1) (hc1 : l1.length ≤ c1) (h : laws_FnFoldsPrint.f k l0 l1 = some true) :
    Calls Try.prog 4 #[.slice A0 l0.length c0, .slice A1 l1.length c1] w fun e w' => e = .returned (.bool true) ∧ Below w.heap.size w w' := by
  have nx := (laws_FnFoldsPrint.p11 (laws_FnFoldsPrint.p12 (laws_FnFoldsPrint.p13 (laws_FnFoldsPrint.p27))))
  have HR0 := Aside0.mk hr0
  have HC0 := Aside0.mk hc0
  clear hr0 hc0
  have HR1 := Aside0.mk hr1
  have HC1 := Aside0.mk hc1
  clear hr1 hc1
  have HB := Aside0.mk (Below.refl w.heap.size w)
  have H : ((laws_big.f l0 l1).bind fun t279 => (if t279 = true then (some true) else ((spec_DrawSideOfSheet.f l0).bind fun bt280 => ((impl_SideOfSheet.f bt280.1 bt280.2.1 bt280.2.2).bind fun bt283 => ((spec_SideOfSheet.f bt280.1 bt280.2.1 bt280.2.2).bind fun bt286 => ((impl_PrintOrder.f k bt280.1).bind fun bt289 => ((spec_PrintOrder.f k bt280.1).bind fun bt293 => ((impl_MiddlePages.f bt280.1).bind fun bt297 => ((spec_MiddlePages.f bt280.1).bind fun bt300 => ((impl_PagesWithout.f k bt280.1 bt280.2.1).bind fun bt303 => ((spec_PagesWithout.f k bt280.1 bt280.2.1).bind fun bt307 => (if (bt283.2.2 != bt286.2.2) = true then (laws_FnFoldsPrint.j0 k l1 bt280.1 bt280.2.1 bt280.2.2 bt283.1 bt283.2.1 bt283.2.2 bt289.1 bt289.2 bt297.1 bt297.2.1 bt303.1 true) else (if bt283.1 = bt286.1 then (if bt283.2.1 = bt286.2.1 then (if (bt289.2 != bt293.2) = true then (laws_FnFoldsPrint.j0 k l1 bt280.1 bt280.2.1 bt280.2.2 bt283.1 bt283.2.1 bt283.2.2 bt289.1 bt289.2 bt297.1 bt297.2.1 bt303.1 true) else ((laws_fSame.f k bt289.1 bt293.1).bind fun t311 => (if t311 = true then (if (bt297.2.2 != bt300.2.2) = true then (laws_FnFoldsPrint.j0 k l1 bt280.1 bt280.2.1 bt280.2.2 bt283.1 bt283.2.1 bt283.2.2 bt289.1 bt289.2 bt297.1 bt297.2.1 bt303.1 true) else (if bt297.1 = bt300.1 then (if bt297.2.1 = bt300.2.1 then (if (bt303.2 != bt307.2) = true then (laws_FnFoldsPrint.j0 k l1 bt280.1 bt280.2.1 bt280.2.2 bt283.1 bt283.2.1 bt283.2.2 bt289.1 bt289.2 bt297.1 bt297.2.1 bt303.1 true) else ((laws_fSame.f k bt303.1 bt307.1).bind fun t312 => (if t312 = true then (if (bt297.2.2 != bt289.2) = true then (laws_FnFoldsPrint.j0 k l1 bt280.1 bt280.2.1 bt280.2.2 bt283.1 bt283.2.1 bt283.2.2 bt289.1 bt289.2 bt297.1 bt297.2.1 bt303.1 true) else (if (bt303.2 != bt283.2.2) = true then (laws_FnFoldsPrint.j0 k l1 bt280.1 bt280.2.1 bt280.2.2 bt283.1 bt283.2.1 bt283.2.2 bt289.1 bt289.2 bt297.1 bt297.2.1 bt303.1 true) else (if bt283.2.2 = true then (laws_FnFoldsPrint.j0 k l1 bt280.1 bt280.2.1 bt280.2.2 bt283.1 bt283.2.1 bt283.2.2 bt289.1 bt289.2 bt297.1 bt297.2.1 bt303.1 (!bt289.2)) else (laws_FnFoldsPrint.j0 k l1 bt280.1 bt280.2.1 bt280.2.2 bt283.1 bt283.2.1 bt283.2.2 bt289.1 bt289.2 bt297.1 bt297.2.1 bt303.1 false)))) else (laws_FnFoldsPrint.j0 k l1 bt280.1 bt280.2.1 bt280.2.2 bt283.1 bt283.2.1 bt283.2.2 bt289.1 bt289.2 bt297.1 bt297.2.1 bt303.1 true)))) else (laws_FnFoldsPrint.j0 k l1 bt280.1 bt280.2.1 bt280.2.2 bt283.1 bt283.2.1 bt283.2.2 bt289.1 bt289.2 bt297.1 bt297.2.1 bt303.1 true)) else (laws_FnFoldsPrint.j0 k l1 bt280.1 bt280.2.1 bt280.2.2 bt283.1 bt283.2.1 bt283.2.2 bt289.1 bt289.2 bt297.1 bt297.2.1 bt303.1 true))) else (laws_FnFoldsPrint.j0 k l1 bt280.1 bt280.2.1 bt280.2.2 bt283.1 bt283.2.1 bt283.2.2 bt289.1 bt289.2 bt297.1 bt297.2.1 bt303.1 true)))) else (laws_FnFoldsPrint.j0 k l1 bt280.1 bt280.2.1 bt280.2.2 bt283.1 bt283.2.1 bt283.2.2 bt289.1 bt289.2 bt297.1 bt297.2.1 bt303.1 true)) else (laws_FnFoldsPrint.j0 k l1 bt280.1 bt280.2.1 bt280.2.2 bt283.1 bt283.2.1 bt283.2.2 bt289.1 bt289.2 bt297.1 bt297.2.1 bt303.1 true)))))))))))))) = some true := h
  clear h
  replace H := Option.bind_eq_some_iff.mp H
  obtain ⟨t279, A30, H⟩ := H
  (try dsimp only at H)
  have A3 := Aside0.mk A30
  clear A30
  by_cases c4 : t279 = true
  · subst c4
    rw [if_pos rfl] at H
    clear H
    go_enter Try.func4, Try.ntmps4
    go_wp2_with (first | ((with_reducible refine gate_callee (f := 6) rfl ?_); refine goesL_ (some 80) rfl rfl Try.func6 (by kernel_rfl) rfl #[.slice A0 l0.length c0, .slice A1 l1.length c1] rfl (by (try simp only [List.map_toArray, List.map_cons, List.map_nil]); first | done | rfl | (simp only [List.length_drop, List.length_take]; rfl)) ?_; (with_reducible refine (laws_big.calls _ _ l0 _ _ l1 true _ ?side1 ?side2 ?side3 ?side4 A3.out).mono ?_); (case side1 => repeat (first | exact HR0.out | (with_reducible refine Kd.C_alloc ?_ _) | (with_reducible refine Kd.C_drewN ?_ _) | (with_reducible refine Kd.C_drew ?_))); (case side2 => exact HC0.out); (case side3 => repeat (first | exact HR1.out | (with_reducible refine Kd.C_alloc ?_ _) | (with_reducible refine Kd.C_drewN ?_ _) | (with_reducible refine Kd.C_drew ?_))); (case side4 => exact HC1.out); rintro e w' ⟨rfl, ⟨nd, rfl⟩⟩; refine ⟨_, rfl, ?_⟩))
    go_ret
    exact ⟨by first | rfl | (simp [errW_none, errW_some] <;> rfl) | (simp [*, errW_none, errW_some] <;> rfl), by repeat (first | (with_reducible first | exact HB.out | apply below_alloc | apply pw_below_drewN | apply below_drew1) | exact HB.out)⟩
  · replace c4 := Bool.eq_false_iff.mpr c4
    subst c4
    rw [if_neg (show ¬ (false = true) by decide)] at H
    replace H := Option.bind_eq_some_iff.mp H
    obtain ⟨⟨t280, t281, t282⟩, A50, H⟩ := H
    (try dsimp only at H)
    have A5 := Aside0.mk A50
    clear A50
    replace H := Option.bind_eq_some_iff.mp H
    obtain ⟨⟨t283, t284, t285⟩, A60, H⟩ := H
    (try dsimp only at H)
    have A6 := Aside0.mk A60
    clear A60
    replace H := Option.bind_eq_some_iff.mp H
    obtain ⟨⟨t286, t287, t288⟩, A70, H⟩ := H
    (try dsimp only at H)
    have A7 := Aside0.mk A70
    clear A70
    replace H := Option.bind_eq_some_iff.mp H
    obtain ⟨⟨t289, t290⟩, A80, H⟩ := H
    (try dsimp only at H)
    have A8 := Aside0.mk A80
    clear A80
    replace H := Option.bind_eq_some_iff.mp H
    obtain ⟨⟨t293, t294⟩, A90, H⟩ := H
    (try dsimp only at H)
    have A9 := Aside0.mk A90
    clear A90
    replace H := Option.bind_eq_some_iff.mp H
    obtain ⟨⟨t297, t298, t299⟩, A100, H⟩ := H
    (try dsimp only at H)
    have A10 := Aside0.mk A100
    clear A100
    replace H := Option.bind_eq_some_iff.mp H
    obtain ⟨⟨t300, t301, t302⟩, A110, H⟩ := H
    (try dsimp only at H)
    have A11 := Aside0.mk A110
    clear A110
    replace H := Option.bind_eq_some_iff.mp H
    obtain ⟨⟨t303, t304⟩, A120, H⟩ := H
    (try dsimp only at H)
    have A12 := Aside0.mk A120
    clear A120
    replace H := Option.bind_eq_some_iff.mp H
    obtain ⟨⟨t307, t308⟩, A130, H⟩ := H
    (try dsimp only at H)
    have A13 := Aside0.mk A130
    clear A130
    have HC14 := Aside0.mk H
    clear H
    go_enter Try.func4, Try.ntmps4
    go_upto_region 12 with (first | ((with_reducible refine gate_callee (f := 6) rfl ?_); refine goesL_ (some 80) rfl rfl Try.func6 (by kernel_rfl) rfl #[.slice A0 l0.length c0, .slice A1 l1.length c1] rfl (by (try simp only [List.map_toArray, List.map_cons, List.map_nil]); first | done | rfl | (simp only [List.length_drop, List.length_take]; rfl)) ?_; (with_reducible refine (laws_big.calls _ _ l0 _ _ l1 false _ ?side1 ?side2 ?side3 ?side4 A3.out).mono ?_); (case side1 => repeat (first | exact HR0.out | (with_reducible refine Kd.C_alloc ?_ _) | (with_reducible refine Kd.C_drewN ?_ _) | (with_reducible refine Kd.C_drew ?_))); (case side2 => exact HC0.out); (case side3 => repeat (first | exact HR1.out | (with_reducible refine Kd.C_alloc ?_ _) | (with_reducible refine Kd.C_drewN ?_ _) | (with_reducible refine Kd.C_drew ?_))); (case side4 => exact HC1.out); rintro e w' ⟨rfl, ⟨nd, rfl⟩⟩; refine ⟨_, rfl, ?_⟩) | ((with_reducible refine gate_callee (f := 33) rfl ?_); refine goesL_ (some 83) rfl rfl Try.func33 (by kernel_rfl) rfl #[.slice A0 l0.length c0] rfl (by (try simp only [List.map_toArray, List.map_cons, List.map_nil]); first | done | rfl | (simp only [List.length_drop, List.length_take]; rfl)) ?_; (with_reducible refine (spec_DrawSideOfSheet.calls _ _ l0 t280 t281 t282 _ ?side1 ?side2 A5.out).mono ?_); (case side1 => repeat (first | exact HR0.out | (with_reducible refine Kd.C_alloc ?_ _) | (with_reducible refine Kd.C_drewN ?_ _) | (with_reducible refine Kd.C_drew ?_))); (case side2 => exact HC0.out); rintro e w15 ⟨rfl, hb⟩; refine ⟨_, rfl, ?_⟩; have n0_ := Aside0.mk (below_step (by repeat (first | (with_reducible first | exact HB.out | apply below_alloc | apply pw_below_drewN | apply below_drew1) | exact HB.out)) hb); clear HB; have HB := n0_; clear n0_; (try clear hb); (try clear hb2); (try clear hk); (try clear hi)) | ((with_reducible refine gate_callee (f := 34) rfl ?_); refine goesL_ (some 91) rfl rfl Try.func34 (by kernel_rfl) rfl #[.int .i64 t280, .int .i64 t281, .bool t282] rfl (by (try simp only [List.map_toArray, List.map_cons, List.map_nil]); first | done | rfl | (simp only [List.length_drop, List.length_take]; rfl)) ?_; (with_reducible refine (impl_SideOfSheet.calls t280 t281 t282 t283 t284 t285 _ A6.out).mono ?_); rintro e w' ⟨rfl, ⟨nd, rfl⟩⟩; refine ⟨_, rfl, ?_⟩) | ((with_reducible refine gate_callee (f := 35) rfl ?_); refine goesL_ (some 99) rfl rfl Try.func35 (by kernel_rfl) rfl #[.int .i64 t280, .int .i64 t281, .bool t282] rfl (by (try simp only [List.map_toArray, List.map_cons, List.map_nil]); first | done | rfl | (simp only [List.length_drop, List.length_take]; rfl)) ?_; (with_reducible refine (spec_SideOfSheet.calls t280 t281 t282 t286 t287 t288 _ A7.out).mono ?_); rintro e w' ⟨rfl, ⟨nd, rfl⟩⟩; refine ⟨_, rfl, ?_⟩) | ((with_reducible refine gate_callee (f := 36) rfl ?_); refine goesL_ (some 105) rfl rfl Try.func36 (by kernel_rfl) rfl #[.int .i64 t280] rfl (by (try simp only [List.map_toArray, List.map_cons, List.map_nil]); first | done | rfl | (simp only [List.length_drop, List.length_take]; rfl)) ?_; (with_reducible refine (impl_PrintOrder.calls k t280 t289 t290 _ A8.out).mono ?_); rintro e w16 ⟨v291, rfl, ho0, hb⟩; refine ⟨_, rfl, ?_⟩; have n0_ := Aside0.mk (Kd.R_lower ho0 (below_size (by repeat (first | (with_reducible first | exact HB.out | apply below_alloc | apply pw_below_drewN | apply below_drew1) | exact HB.out)))); have n1_ := Aside0.mk (below_step (by repeat (first | (with_reducible first | exact HB.out | apply below_alloc | apply pw_below_drewN | apply below_drew1) | exact HB.out)) hb); clear HB; have HO292 := n0_; have HB := n1_; clear n0_ n1_; (try clear hb); (try clear hb2); (try clear hk); (try clear hi); (try clear ho0)) | ((with_reducible refine gate_callee (f := 37) rfl ?_); refine goesL_ (some 110) rfl rfl Try.func37 (by kernel_rfl) rfl #[.int .i64 t280] rfl (by (try simp only [List.map_toArray, List.map_cons, List.map_nil]); first | done | rfl | (simp only [List.length_drop, List.length_take]; rfl)) ?_; (with_reducible refine (spec_PrintOrder.calls k t280 t293 t294 _ A9.out).mono ?_); rintro e w17 ⟨v295, rfl, ho0, hb⟩; refine ⟨_, rfl, ?_⟩; have n0_ := Aside0.mk (Kd.R_elder' (by (with_reducible repeat (first | apply Kd.R_alloc | apply Kd.R_drewN | apply Kd.R_drew)); exact HO292.out) (Kd.R_base ho0) hb); have n1_ := Aside0.mk (Kd.R_lower (Kd.R_new' ho0 (Kd.R_lt (by (with_reducible repeat (first | apply Kd.R_alloc | apply Kd.R_drewN | apply Kd.R_drew)); exact HO292.out))) (below_size (by repeat (first | (with_reducible first | exact HB.out | apply below_alloc | apply pw_below_drewN | apply below_drew1) | exact HB.out)))); have n2_ := Aside0.mk (below_step (by repeat (first | (with_reducible first | exact HB.out | apply below_alloc | apply pw_below_drewN | apply below_drew1) | exact HB.out)) hb); clear HO292; clear HB; have HO292 := n0_; have HO296 := n1_; have HB := n2_; clear n0_ n1_ n2_; (try clear hb); (try clear hb2); (try clear hk); (try clear hi); (try clear ho0)) | ((with_reducible refine gate_callee (f := 38) rfl ?_); refine goesL_ (some 115) rfl rfl Try.func38 (by kernel_rfl) rfl #[.int .i64 t280] rfl (by (try simp only [List.map_toArray, List.map_cons, List.map_nil]); first | done | rfl | (simp only [List.length_drop, List.length_take]; rfl)) ?_; (with_reducible refine (impl_MiddlePages.calls t280 t297 t298 t299 _ A10.out).mono ?_); rintro e w' ⟨rfl, ⟨nd, rfl⟩⟩; refine ⟨_, rfl, ?_⟩) | ((with_reducible refine gate_callee (f := 39) rfl ?_); refine goesL_ (some 121) rfl rfl Try.func39 (by kernel_rfl) rfl #[.int .i64 t280] rfl (by (try simp only [List.map_toArray, List.map_cons, List.map_nil]); first | done | rfl | (simp only [List.length_drop, List.length_take]; rfl)) ?_; (with_reducible refine (spec_MiddlePages.calls t280 t300 t301 t302 _ A11.out).mono ?_); rintro e w' ⟨rfl, ⟨nd, rfl⟩⟩; refine ⟨_, rfl, ?_⟩) | ((with_reducible refine gate_callee (f := 40) rfl ?_); refine goesL_ (some 128) rfl rfl Try.func40 (by kernel_rfl) rfl #[.int .i64 t280, .int .i64 t281] rfl (by (try simp only [List.map_toArray, List.map_cons, List.map_nil]); first | done | rfl | (simp only [List.length_drop, List.length_take]; rfl)) ?_; (with_reducible refine (impl_PagesWithout.calls k t280 t281 t303 t304 _ A12.out).mono ?_); rintro e w18 ⟨v305, rfl, ho0, hb⟩; refine ⟨_, rfl, ?_⟩; have n0_ := Aside0.mk (Kd.R_elder' (by (with_reducible repeat (first | apply Kd.R_alloc | apply Kd.R_drewN | apply Kd.R_drew)); exact HO292.out) (Kd.R_base ho0) hb); have n1_ := Aside0.mk (Kd.R_elder' (by (with_reducible repeat (first | apply Kd.R_alloc | apply Kd.R_drewN | apply Kd.R_drew)); exact HO296.out) (Kd.R_base ho0) hb); have n2_ := Aside0.mk (Kd.R_lower (Kd.R_new' (Kd.R_new' ho0 (Kd.R_lt (by (with_reducible repeat (first | apply Kd.R_alloc | apply Kd.R_drewN | apply Kd.R_drew)); exact HO292.out))) (Kd.R_lt (by (with_reducible repeat (first | apply Kd.R_alloc | apply Kd.R_drewN | apply Kd.R_drew)); exact HO296.out))) (below_size (by repeat (first | (with_reducible first | exact HB.out | apply below_alloc | apply pw_below_drewN | apply below_drew1) | exact HB.out)))); have n3_ := Aside0.mk (below_step (by repeat (first | (with_reducible first | exact HB.out | apply below_alloc | apply pw_below_drewN | apply below_drew1) | exact HB.out)) hb); clear HO292; clear HO296; clear HB; have HO292 := n0_; have HO296 := n1_; have HO306 := n2_; have HB := n3_; clear n0_ n1_ n2_ n3_; (try clear hb); (try clear hb2); (try clear hk); (try clear hi); (try clear ho0)) | ((with_reducible refine gate_callee (f := 41) rfl ?_); refine goesL_ (some 134) rfl rfl Try.func41 (by kernel_rfl) rfl #[.int .i64 t280, .int .i64 t281] rfl (by (try simp only [List.map_toArray, List.map_cons, List.map_nil]); first | done | rfl | (simp only [List.length_drop, List.length_take]; rfl)) ?_; (with_reducible refine (spec_PagesWithout.calls k t280 t281 t307 t308 _ A13.out).mono ?_); rintro e w19 ⟨v309, rfl, ho0, hb⟩; refine ⟨_, rfl, ?_⟩; have n0_ := Aside0.mk (Kd.R_elder' (by (with_reducible repeat (first | apply Kd.R_alloc | apply Kd.R_drewN | apply Kd.R_drew)); exact HO292.out) (Kd.R_base ho0) hb); have n1_ := Aside0.mk (Kd.R_elder' (by (with_reducible repeat (first | apply Kd.R_alloc | apply Kd.R_drewN | apply Kd.R_drew)); exact HO296.out) (Kd.R_base ho0) hb); have n2_ := Aside0.mk (Kd.R_elder' (by (with_reducible repeat (first | apply Kd.R_alloc | apply Kd.R_drewN | apply Kd.R_drew)); exact HO306.out) (Kd.R_base ho0) hb); have n3_ := Aside0.mk (Kd.R_lower (Kd.R_new' (Kd.R_new' (Kd.R_new' ho0 (Kd.R_lt (by (with_reducible repeat (first | apply Kd.R_alloc | apply Kd.R_drewN | apply Kd.R_drew)); exact HO292.out))) (Kd.R_lt (by (with_reducible repeat (first | apply Kd.R_alloc | apply Kd.R_drewN | apply Kd.R_drew)); exact HO296.out))) (Kd.R_lt (by (with_reducible repeat (first | apply Kd.R_alloc | apply Kd.R_drewN | apply Kd.R_drew)); exact HO306.out))) (below_size (by repeat (first | (with_reducible first | exact HB.out | apply below_alloc | apply pw_below_drewN | apply below_drew1) | exact HB.out)))); have n4_ := Aside0.mk (below_step (by repeat (first | (with_reducible first | exact HB.out | apply below_alloc | apply pw_below_drewN | apply below_drew1) | exact HB.out)) hb); clear HO292; clear HO296; clear HO306; clear HB; have HO292 := n0_; have HO296 := n1_; have HO306 := n2_; have HO310 := n3_; have HB := n4_; clear n0_ n1_ n2_ n3_ n4_; (try clear hb); (try clear hb2); (try clear hk); (try clear hi); (try clear ho0)))
    (try simp only [Act.put, List.setIfInBounds_toArray, List.set_cons_zero, List.set_cons_succ])
    go_cut [203] from 78 to 203 (fun v203 wc => ∃ (kq : Nat) (x203_13 : Bool), v203 = .bool x203_13 ∧ Aside0 (laws_FnFoldsPrint.j0 kq l1 t280 t281 t282 t283 t284 t285 t289 t290 t297 t298 t303 x203_13 = some true) ∧ Aside0 (kq ≤ k) ∧ Aside0 (Kd.R (Kd.int .i64) 3 wc w.heap.size (fun k_ => some k_ ≠ (v305 : Value).ownBlock) v291 t289) ∧ Aside0 (Kd.R (Kd.int .i64) 3 wc w.heap.size (fun k_ => some k_ ≠ (v291 : Value).ownBlock) v305 t303) ∧ Aside0 (Below w.heap.size w wc))
    case first =>
      have H := HC14.out
      clear HC14
      by_cases c20 : (t285 != t288) = true
      · rw [if_pos c20] at H
        have c20b0 : (t285 != t288) = true := c20
        (try (have c20b1 : decide (t285 = t288) = false := by simpa using c20))
        (try (have c20b2 : (t285 == t288) = false := by simpa using c20))
        (try (have c20b3 : ¬ (t285 = t288) := by simpa using c20))
        clear c20
        (first | rw [c20b0] | (simp only [i64_w, i32_w]; rw [c20b0]) | skip)
        exact absurd H laws_FnFoldsPrint.j0_dead
      · rw [if_neg c20] at H
        have c20b0 : (t285 != t288) = false := by simpa using c20
        (try (have c20b1 : decide (t285 = t288) = true := by simpa using c20))
        (try (have c20b2 : (t285 == t288) = true := by simpa using c20))
        clear c20
        (first | rw [c20b0] | (simp only [i64_w, i32_w]; rw [c20b0]) | skip)
        by_cases c21 : t283 = t286
        · rw [if_pos c21] at H
          have c21b0 : (t283 == t286) = true := beq_iff_eq.mpr c21
          have c21b1 : (t283 != t286) = false := bne_eq_false_iff_eq.mpr c21
          clear c21
          by_cases c22 : t284 = t287
          · rw [if_pos c22] at H
            have c22b0 : (t284 == t287) = true := beq_iff_eq.mpr c22
            have c22b1 : (t284 != t287) = false := bne_eq_false_iff_eq.mpr c22
            clear c22
            by_cases c23 : (t290 != t294) = true
            · rw [if_pos c23] at H
              have c23b0 : (t290 != t294) = true := c23
              (try (have c23b1 : decide (t290 = t294) = false := by simpa using c23))
              (try (have c23b2 : (t290 == t294) = false := by simpa using c23))
              (try (have c23b3 : ¬ (t290 = t294) := by simpa using c23))
              clear c23
              exact absurd H laws_FnFoldsPrint.j0_dead
            · rw [if_neg c23] at H
              have c23b0 : (t290 != t294) = false := by simpa using c23
              (try (have c23b1 : decide (t290 = t294) = true := by simpa using c23))
              (try (have c23b2 : (t290 == t294) = true := by simpa using c23))
              clear c23
              replace H := Option.bind_eq_some_iff.mp H
              obtain ⟨t311, A240, H⟩ := H
              (try dsimp only at H)
              have A24 := Aside0.mk A240
              clear A240
              by_cases c25 : t311 = true
              · subst c25
                rw [if_pos rfl] at H
                by_cases c26 : (t299 != t302) = true
                · rw [if_pos c26] at H
                  have c26b0 : (t299 != t302) = true := c26
                  (try (have c26b1 : decide (t299 = t302) = false := by simpa using c26))
                  (try (have c26b2 : (t299 == t302) = false := by simpa using c26))
                  (try (have c26b3 : ¬ (t299 = t302) := by simpa using c26))
                  clear c26
                  exact absurd H laws_FnFoldsPrint.j0_dead
                · rw [if_neg c26] at H
                  have c26b0 : (t299 != t302) = false := by simpa using c26
                  (try (have c26b1 : decide (t299 = t302) = true := by simpa using c26))
                  (try (have c26b2 : (t299 == t302) = true := by simpa using c26))
                  clear c26
                  by_cases c29 : t297 = t300
                  · rw [if_pos c29] at H
                    have c29b0 : (t297 == t300) = true := beq_iff_eq.mpr c29
                    have c29b1 : (t297 != t300) = false := bne_eq_false_iff_eq.mpr c29
                    clear c29
                    by_cases c30 : t298 = t301
                    · rw [if_pos c30] at H
                      have c30b0 : (t298 == t301) = true := beq_iff_eq.mpr c30
                      have c30b1 : (t298 != t301) = false := bne_eq_false_iff_eq.mpr c30
                      clear c30
                      by_cases c31 : (t304 != t308) = true
                      · rw [if_pos c31] at H
                        have c31b0 : (t304 != t308) = true := c31
                        (try (have c31b1 : decide (t304 = t308) = false := by simpa using c31))
                        (try (have c31b2 : (t304 == t308) = false := by simpa using c31))
                        (try (have c31b3 : ¬ (t304 = t308) := by simpa using c31))
                        clear c31
                        exact absurd H laws_FnFoldsPrint.j0_dead
                      · rw [if_neg c31] at H
                        have c31b0 : (t304 != t308) = false := by simpa using c31
                        (try (have c31b1 : decide (t304 = t308) = true := by simpa using c31))
                        (try (have c31b2 : (t304 == t308) = true := by simpa using c31))
                        clear c31
                        replace H := Option.bind_eq_some_iff.mp H
                        obtain ⟨t312, A340, H⟩ := H
                        (try dsimp only at H)
                        have A34 := Aside0.mk A340
                        clear A340
                        by_cases c35 : t312 = true
                        · subst c35
                          rw [if_pos rfl] at H
                          by_cases c36 : (t299 != t290) = true
                          · rw [if_pos c36] at H
                            have c36b0 : (t299 != t290) = true := c36
                            (try (have c36b1 : decide (t299 = t290) = false := by simpa using c36))
                            (try (have c36b2 : (t299 == t290) = false := by simpa using c36))
                            (try (have c36b3 : ¬ (t299 = t290) := by simpa using c36))
                            clear c36
                            exact absurd H laws_FnFoldsPrint.j0_dead
                          · rw [if_neg c36] at H
                            have c36b0 : (t299 != t290) = false := by simpa using c36
                            (try (have c36b1 : decide (t299 = t290) = true := by simpa using c36))
                            (try (have c36b2 : (t299 == t290) = true := by simpa using c36))
                            clear c36
                            by_cases c41 : (t304 != t285) = true
                            · rw [if_pos c41] at H
                              have c41b0 : (t304 != t285) = true := c41
                              (try (have c41b1 : decide (t304 = t285) = false := by simpa using c41))
                              (try (have c41b2 : (t304 == t285) = false := by simpa using c41))
                              (try (have c41b3 : ¬ (t304 = t285) := by simpa using c41))
                              clear c41
                              exact absurd H laws_FnFoldsPrint.j0_dead
                            · rw [if_neg c41] at H
                              have c41b0 : (t304 != t285) = false := by simpa using c41
                              (try (have c41b1 : decide (t304 = t285) = true := by simpa using c41))
                              (try (have c41b2 : (t304 == t285) = true := by simpa using c41))
                              clear c41
                              by_cases c46 : t285 = true
                              · subst c46
                                rw [if_pos rfl] at H
                                have H' := Aside0.mk H
                                clear H
                                obtain ⟨Ao47, co47, eo47⟩ := Kd.R_slice HO292.out
                                subst eo47
                                obtain ⟨Ao48, co48, eo48⟩ := Kd.R_slice HO296.out
                                subst eo48
                                go_wp2_with (first | (go_at_call 18; (with_reducible refine (laws_fSame.calls k _ _ t289 _ _ t293 true _ ?side1 ?side2 ?side3 ?side4 A24.out).mono ?_); (case side1 => repeat (first | exact (Kd.R_reads' HO292.out).2.2 | (with_reducible refine Kd.C_alloc ?_ _) | (with_reducible refine Kd.C_drewN ?_ _) | (with_reducible refine Kd.C_drew ?_))); (case side2 => exact (Kd.R_reads' HO292.out).2.1); (case side3 => repeat (first | exact (Kd.R_reads' HO296.out).2.2 | (with_reducible refine Kd.C_alloc ?_ _) | (with_reducible refine Kd.C_drewN ?_ _) | (with_reducible refine Kd.C_drew ?_))); (case side4 => exact (Kd.R_reads' HO296.out).2.1); rintro e w' ⟨rfl, ⟨nd, rfl⟩⟩; obtain ⟨Ao49, co49, eo49⟩ := Kd.R_slice HO306.out; subst eo49; obtain ⟨Ao50, co50, eo50⟩ := Kd.R_slice HO310.out; subst eo50) | (go_at_call 18; (with_reducible refine (laws_fSame.calls k _ _ t303 _ _ t307 true _ ?side1 ?side2 ?side3 ?side4 A34.out).mono ?_); (case side1 => repeat (first | exact (Kd.R_reads' HO306.out).2.2 | (with_reducible refine Kd.C_alloc ?_ _) | (with_reducible refine Kd.C_drewN ?_ _) | (with_reducible refine Kd.C_drew ?_))); (case side2 => exact (Kd.R_reads' HO306.out).2.1); (case side3 => repeat (first | exact (Kd.R_reads' HO310.out).2.2 | (with_reducible refine Kd.C_alloc ?_ _) | (with_reducible refine Kd.C_drewN ?_ _) | (with_reducible refine Kd.C_drew ?_))); (case side4 => exact (Kd.R_reads' HO310.out).2.1); rintro e w' ⟨rfl, ⟨nd, rfl⟩⟩))
                                go_meet
                                case rel => exact ⟨_, (!t290), (by first | rfl | (simp; done) | (simp [*]; done)), H', ⟨by first | omega | exact Nat.le_refl _⟩, ⟨by (with_reducible repeat (first | apply Kd.R_alloc | apply Kd.R_drewN | apply Kd.R_drew)); exact Kd.R_mono HO292.out (fun _ hk => hk.1.2)⟩, ⟨by (with_reducible repeat (first | apply Kd.R_alloc | apply Kd.R_drewN | apply Kd.R_drew)); exact Kd.R_mono HO306.out (fun _ hk => hk.1.1.2)⟩, ⟨by repeat (first | (with_reducible first | exact HB.out | apply below_alloc | apply pw_below_drewN | apply below_drew1) | exact HB.out)⟩⟩
                              · replace c46 := Bool.eq_false_iff.mpr c46
                                subst c46
                                rw [if_neg (show ¬ (false = true) by decide)] at H
                                have H' := Aside0.mk H
                                clear H
                                obtain ⟨Ao51, co51, eo51⟩ := Kd.R_slice HO292.out
                                subst eo51
                                obtain ⟨Ao52, co52, eo52⟩ := Kd.R_slice HO296.out
                                subst eo52
                                go_wp2_with (first | (go_at_call 18; (with_reducible refine (laws_fSame.calls k _ _ t289 _ _ t293 true _ ?side1 ?side2 ?side3 ?side4 A24.out).mono ?_); (case side1 => repeat (first | exact (Kd.R_reads' HO292.out).2.2 | (with_reducible refine Kd.C_alloc ?_ _) | (with_reducible refine Kd.C_drewN ?_ _) | (with_reducible refine Kd.C_drew ?_))); (case side2 => exact (Kd.R_reads' HO292.out).2.1); (case side3 => repeat (first | exact (Kd.R_reads' HO296.out).2.2 | (with_reducible refine Kd.C_alloc ?_ _) | (with_reducible refine Kd.C_drewN ?_ _) | (with_reducible refine Kd.C_drew ?_))); (case side4 => exact (Kd.R_reads' HO296.out).2.1); rintro e w' ⟨rfl, ⟨nd, rfl⟩⟩; obtain ⟨Ao53, co53, eo53⟩ := Kd.R_slice HO306.out; subst eo53; obtain ⟨Ao54, co54, eo54⟩ := Kd.R_slice HO310.out; subst eo54) | (go_at_call 18; (with_reducible refine (laws_fSame.calls k _ _ t303 _ _ t307 true _ ?side1 ?side2 ?side3 ?side4 A34.out).mono ?_); (case side1 => repeat (first | exact (Kd.R_reads' HO306.out).2.2 | (with_reducible refine Kd.C_alloc ?_ _) | (with_reducible refine Kd.C_drewN ?_ _) | (with_reducible refine Kd.C_drew ?_))); (case side2 => exact (Kd.R_reads' HO306.out).2.1); (case side3 => repeat (first | exact (Kd.R_reads' HO310.out).2.2 | (with_reducible refine Kd.C_alloc ?_ _) | (with_reducible refine Kd.C_drewN ?_ _) | (with_reducible refine Kd.C_drew ?_))); (case side4 => exact (Kd.R_reads' HO310.out).2.1); rintro e w' ⟨rfl, ⟨nd, rfl⟩⟩))
                                go_meet
                                case rel => exact ⟨_, (false), (by first | rfl | (simp; done) | (simp [*]; done)), H', ⟨by first | omega | exact Nat.le_refl _⟩, ⟨by (with_reducible repeat (first | apply Kd.R_alloc | apply Kd.R_drewN | apply Kd.R_drew)); exact Kd.R_mono HO292.out (fun _ hk => hk.1.2)⟩, ⟨by (with_reducible repeat (first | apply Kd.R_alloc | apply Kd.R_drewN | apply Kd.R_drew)); exact Kd.R_mono HO306.out (fun _ hk => hk.1.1.2)⟩, ⟨by repeat (first | (with_reducible first | exact HB.out | apply below_alloc | apply pw_below_drewN | apply below_drew1) | exact HB.out)⟩⟩
                        · replace c35 := Bool.eq_false_iff.mpr c35
                          subst c35
                          rw [if_neg (show ¬ (false = true) by decide)] at H
                          exact absurd H laws_FnFoldsPrint.j0_dead
                    · rw [if_neg c30] at H
                      have c30b0 : (t298 == t301) = false := beq_eq_false_iff_ne.mpr c30
                      have c30b1 : (t298 != t301) = true := bne_iff_ne.mpr c30
                      exact absurd H laws_FnFoldsPrint.j0_dead
                  · rw [if_neg c29] at H
                    have c29b0 : (t297 == t300) = false := beq_eq_false_iff_ne.mpr c29
                    have c29b1 : (t297 != t300) = true := bne_iff_ne.mpr c29
                    exact absurd H laws_FnFoldsPrint.j0_dead
              · replace c25 := Bool.eq_false_iff.mpr c25
                subst c25
                rw [if_neg (show ¬ (false = true) by decide)] at H
                exact absurd H laws_FnFoldsPrint.j0_dead
          · rw [if_neg c22] at H
            have c22b0 : (t284 == t287) = false := beq_eq_false_iff_ne.mpr c22
            have c22b1 : (t284 != t287) = true := bne_iff_ne.mpr c22
            exact absurd H laws_FnFoldsPrint.j0_dead
        · rw [if_neg c21] at H
          have c21b0 : (t283 == t286) = false := beq_eq_false_iff_ne.mpr c21
          have c21b1 : (t283 != t286) = true := bne_iff_ne.mpr c21
          exact absurd H laws_FnFoldsPrint.j0_dead
    case rest =>
      clear HC14
      try clear p2
      try clear c20
      try clear c20b0
      try clear c20b1
      try clear c20b2
      try clear c21
      try clear c21b0
      try clear c21b1
      try clear c22
      try clear c22b0
      try clear c22b1
      try clear c23
      try clear c23b0
      try clear c23b1
      try clear c23b2
      try clear c25
      try clear c26
      try clear c26b0
      try clear c26b1
      try clear c26b2
      try clear c29
      try clear c29b0
      try clear c29b1
      try clear c30
      try clear c30b0
      try clear c30b1
      try clear c31
      try clear c31b0
      try clear c31b1
      try clear c31b2
      try clear c33
      try clear c34
      try clear c35
      try clear c36
      try clear c36b0
      try clear c36b1
      try clear c36b2
      try clear c37
      try clear c38
      try clear c39
      try clear c40
      try clear c41
      try clear c41b0
      try clear c41b1
      try clear c41b2
      try clear c46
      obtain ⟨kq, x203_13, rfl, HA, HJ13, HO_14, HO_24, HB⟩ := hcut
      rename_i K1 a1 K0 a0
      exact nx k l0 A1 c1 l1 w HR1 HC1 t280 t281 t282 t283 t284 t285 t289 t290 t297 t298 t303 v305 v291 kq x203_13 wc HA HO_14 HO_24 HB _ _ _ _ _ _ _ _ _ _ _ _ _ _ _ _ _ _ _ _ _ _ _ _ _ _ _ _ _ _ _ _ _ _ _ _ _ _ _ _ _ _ _ _ _ _ _ _ _ _ _ _ _ _ _ _ _ _ _ _ _ _ _ _ _ _ _ _ _ _ _ _ _ _ _ _ _ _ _ _ _ _ _ _ _ _ _ _ _ _ _ _ _ _ _ _ _ _ _ _ _ _ _ _ _ _ _ _ _ _ _ _ _ _ _ _ _ _ _ _ _ _ _ _ _ _ _ _ _ _ _ _ _ _ _ _ _ _ _ _ _ _ _ _ _ _ _ _ _ _ _ _ _ _ _ _ _ _ _ _ _ _ _ _ _ _ _ _ _ _ _ _ _ _ _ _ _ _ _ _ _ _ _ _ _ _ _ _ _ _ _ _ _ _ _ _ _ _ _ _ _ _ _ _ _ _ _ _ _ _ _ _ _ _ _ _ _ _ _ _ _ _ _ _ _ _ _ _ _ _ _ _ _ _ _ _ _ _ _ _ _ _ _ _ _ _ _ _ _ _ _ _ _ _ _ _ _ _ _ _ _ _ _ _ _ _ _ _ _ _ _ _ _ _ _ _ _ _ _ _ _ _ _ _ _ _ _ _ _ _ _ _ _ _ _ _ _ _ _ _ _ _ _ _ _ _ _ _ _ _ _ _ _ _ _ _ _ _ _ _ _ _ _ _ _ _ _ _ _ _ _ _ _ _ _ _ _ _ _ _ _ _ _ _ _ _ _ _ _ _ _ _ _ _ _ _ _ _ _ _ _ _ _ _ _ _ _ _ _ _ _ _ _ _ _ _ _ _ _ _ _ _ _ _ _ _ _ _ _ _ _ _ _ _ _ _ _ _ _ _ _ _ _ _ _ _ _ _ _ _ _ _ _ _ _ _ _ _ _ _ _ _ _ _ _ _ _ _ _ _ _ _ _ _ _ _ _ _ _ _ _ _ _ _ _ _ _ _ _ _ _ _ _ _ _ _ _ _ _ _ _ _ _ _ _ _ _ _ _ _ _ _ _ _ _ _ _ _ _ _ _ _ _ _ _ _ _ _ _ _ _ _ _ _ _ _ _ _ _ _ _ _ _ _ _ _ _ _ _ _ _ _ _ _ _ _ _ _ _ _ _ _ _ _ _ _ _ _ _ _ _ _ _ _ _ _ _ _ _ _ _ _ _ _ _ _ _ _ _ _ _ _ _ _ _ _ _ _ _ _ _ _ _ _ _ _ _ _ _ _ _ _ _ _ _ _ _ _ _ _ _ _ _ _ _ _ _ _ _ _ _ _ _ _ _ K1 a1 K0 a0

/-- THE ONE PURE STATEMENT of laws_FnFoldsPrint: yours. -/
def laws_FnFoldsPrint.Pure : Prop := ∀ (l0 : List Int) (l1 : List Int), l0.length ≤ maxLen → l0.length * 1 ≤ 140737488351232 → (∀ x ∈ l0, (Lit.int .u8 x).wf = true) → l1.length ≤ maxLen → l1.length * 1 ≤ 140737488351232 → (∀ x ∈ l1, (Lit.int .u8 x).wf = true) → ∃ k, laws_FnFoldsPrint.f k l0 l1 = some true
theorem laws_FnFoldsPrint.walk (P : laws_FnFoldsPrint.Pure) (a0 : Option Addr) (len0 cap0 : Nat) (z0 : List Int) (a1 : Option Addr) (len1 cap1 : Nat) (z1 : List Int) (w : World) (w0 : (a0 = none ∧ len0 = 0 ∧ cap0 = 0 ∧ z0 = []) ∨ ∃ x, a0 = some x ∧ len0 ≤ cap0 ∧ cap0 ≤ maxLen ∧ z0.length = cap0 ∧ (∀ i, i < z0.length → w.cell? (x.add i) = some (.int .u8 (z0.getD i 0))) ∧ ∀ n ∈ z0, (Lit.int .u8 n).wf = true) (y0 : len0 * 1 ≤ 140737488351232) (w1 : (a1 = none ∧ len1 = 0 ∧ cap1 = 0 ∧ z1 = []) ∨ ∃ x, a1 = some x ∧ len1 ≤ cap1 ∧ cap1 ≤ maxLen ∧ z1.length = cap1 ∧ (∀ i, i < z1.length → w.cell? (x.add i) = some (.int .u8 (z1.getD i 0))) ∧ ∀ n ∈ z1, (Lit.int .u8 n).wf = true) (y1 : len1 * 1 ≤ 140737488351232) :
    Calls Try.prog 4 #[.slice a0 len0 cap0, .slice a1 len1 cap1] w fun e w' => e = .returned (.bool true) ∧ Below w.heap.size w w' := by
  obtain ⟨l0, rfl, hr0, hm0, hw0, hc0⟩ := ReadsInt.ofRowC w0
  obtain ⟨l1, rfl, hr1, hm1, hw1, hc1⟩ := ReadsInt.ofRowC w1
  obtain ⟨k, h⟩ := P l0 l1 hm0 y0 hw0 hm1 y1 hw1
  refine (laws_FnFoldsPrint.calls k _ _ l0 _ _ l1 w (Kd.C_of_reads (d := (0 : Int)) (h1 := fun _ => rfl) hr0) hc0 (Kd.C_of_reads (d := (0 : Int)) (h1 := fun _ => rfl) hr1) hc1 h).mono ?_
  rintro e w' ⟨rfl, hd⟩
  exact ⟨rfl, hd⟩

end Go.Proofs.Ytjkfgeigicljpaa.PFnFoldsPrint
