-- WRITTEN BY A PROGRAM OF THIS SESSION (xprint), out of the translation: not trusted: it is checked as any text
import Derived.Test.YtjkfgeigicljpaaPFnFoldsStackx8
namespace Go.Proofs.Ytjkfgeigicljpaa.PFnFoldsStack
open Go.RowKit Go.Proofs.YtjkfgeigicljpaaW.PrintWords Go.Proofs.YtjkfgeigicljpaaW.PrintLast Go.Proofs.YtjkfgeigicljpaaW.PrintMore
attribute [local go_sem] max2_int min2_int max_two min_two max_three min_three max_four min_four   -- for this text's walks alone
set_option linter.unusedVariables false
set_option linter.unusedSimpArgs false

set_option maxHeartbeats 40000000 in
set_option maxRecDepth 1000000 in
theorem laws_FnFoldsStack.p16 (nx : laws_FnFoldsStack.P30) : laws_FnFoldsStack.P16 := by
 unfold laws_FnFoldsStack.P16
 intro A1 c1 l1 w HR1 HC1 kq x350_154 wc HA HB _ _ _ _ _ _ _ _ _ _ _ _ _ _ _ _ _ _ _ _ _ _ _ _ _ _ _ _ _ _ _ _ _ _ _ _ _ _ _ _ _ _ _ _ _ _ _ _ _ _ _ _ _ _ _ _ _ _ _ _ _ _ _ _ _ _ _ _ _ _ _ _ _ _ _ _ _ _ _ _ _ _ _ _ _ _ _ _ _ _ _ _ _ _ _ _ _ _ _ _ _ _ _ _ _ _ _ _ _ _ _ _ _ _ _ _ _ _ _ _ _ _ _ _ _ _ _ _ _ _ _ _ _ _ _ _ _ _ _ _ _ _ _ _ _ _ _ _ _ _ _ _ _ _ _ _ _ _ _ _ _ _ _ _ _ _ _ _ _ _ _ _ _ _ _ _ _ _ _ _ _ _ _ _ _ _ _ _ _ _ _ _ _ _ _ _ _ _ _ _ _ _ _ _ _ _ _ _ _ _ _ _ _ _ _ _ _ _ _ _ _ _ _ _ _ _ _ _ _ _ _ _ _ _ _ _ _ _ _ _ _ _ _ _ _ _ _ _ _ _ _ _ _ _ _ _ _ _ _ _ _ _ _ _ _ _ _ _ _ _ _ _ _ _ _ _ _ _ _ _ _ _ _ _ _ _ _ _ _ _ _ _ _ _ _ _ _ _ _ _ _ _ _ _ _ _ _ _ _ _ _ _ _ _ _ _ _ _ _ _ _ _ _ _ _ _ _ _ _ _ _ _ _ _ _ _ _ _ _ _ _ _ _ _ _ _ _ _ _ _ _ _ _ _ _ _ _ _ _ _ _ _ _ _ _ _ _ _ _ _ _ _ _ _ _ _ _ _ _ _ _ _ _ _ _ _ _ _ _ _ _ _ _ _ _ _ _ _ _ _ _ _ _ _ _ _ _ _ _ _ _ _ _ _ _ _ _ _ _ _ _ _ _ _ _ _ _ _ _ _ _ _ _ _ _ _ _ _ _ _ _ _ _ _ _ _ _ _ _ _ _ _ _ _ _ _ _ _ _ _ _ _ _ _ _ _ _ _ _ _ _ _ _ _ _ _ _ _ _ _ _ _ _ _ _ _ _ _ _ _ _ _ _ _ _ _ _ _ _ _ _ _ _ _ _ _ _ _ _ _ _ _ _ _ _ _ _ _ _ _ _ _ _ _ _ _ _ _ _ _ _ _ _ _ _ _ _ _ _ _ _ _ _ _ _ _ _ _ _ _ _ _ _ _ _ _ _ _ _ _ _ _ _ _ _ _ _ _ _ _ _ _ _ _ _ _ _ _ _ _ _ _ _ _ _ _ _ _ _ _ _ _ _ _ _ _ _ _ _ _ _ _ _ _ _ _ _ _ _ _ _ _ _ _ _ _ _ _ _ _ _ _ _ _ _ _ _ _ _ _ _ _ _ _ _ _ _ _ _ _ _ _ _ _ _ _ _ _ _ _ _ _ _ _ _ _ _ _ _ Q' K1 a1 K0 a0
 conv at a1 => intro a w; lhs; arg 2; whnf
 conv at a0 => intro a w; lhs; arg 2; whnf
 try dsimp only
 cases kq with
 | zero => exact absurd HA.out (by simp [laws_FnFoldsStack.j7])
 | succ kj154 =>
  have H := HA.out
  clear HA
  simp only [laws_FnFoldsStack.j7] at H
  by_cases c161 : x350_154 = true
  ·subst c161
   rw [if_pos rfl] at H
   exact absurd H (by simp)
  ·replace c161 := Bool.eq_false_iff.mpr c161
   subst c161
   rw [if_neg (show ¬ (false = true) by decide)] at H
   replace H := Option.bind_eq_some_iff.mp H
   obtain ⟨⟨t387, t388, t389⟩, A1620, H⟩ := H
   (try dsimp only at H)
   have A162 := Aside0.mk A1620
   clear A1620
   replace H := Option.bind_eq_some_iff.mp H
   obtain ⟨⟨t390, t391, t392⟩, A1630, H⟩ := H
   (try dsimp only at H)
   have A163 := Aside0.mk A1630
   clear A1630
   replace H := Option.bind_eq_some_iff.mp H
   obtain ⟨⟨t393, t394, t395⟩, A1640, H⟩ := H
   (try dsimp only at H)
   have A164 := Aside0.mk A1640
   clear A1640
   replace H := Option.bind_eq_some_iff.mp H
   obtain ⟨⟨t396, t397, t398, t399⟩, A1650, H⟩ := H
   (try dsimp only at H)
   have A165 := Aside0.mk A1650
   clear A1650
   replace H := Option.bind_eq_some_iff.mp H
   obtain ⟨⟨t400, t401⟩, A1660, H⟩ := H
   (try dsimp only at H)
   have A166 := Aside0.mk A1660
   clear A1660
   replace H := Option.bind_eq_some_iff.mp H
   obtain ⟨⟨t402, t403⟩, A1670, H⟩ := H
   (try dsimp only at H)
   have A167 := Aside0.mk A1670
   clear A1670
   replace H := Option.bind_eq_some_iff.mp H
   obtain ⟨⟨t404, t405⟩, A1680, H⟩ := H
   (try dsimp only at H)
   have A168 := Aside0.mk A1680
   clear A1680
   replace H := Option.bind_eq_some_iff.mp H
   obtain ⟨⟨t406, t407⟩, A1690, H⟩ := H
   (try dsimp only at H)
   have A169 := Aside0.mk A1690
   clear A1690
   replace H := Option.bind_eq_some_iff.mp H
   obtain ⟨⟨t410, t411⟩, A1700, H⟩ := H
   (try dsimp only at H)
   have A170 := Aside0.mk A1700
   clear A1700
   replace H := Option.bind_eq_some_iff.mp H
   obtain ⟨⟨t414, t415⟩, A1710, H⟩ := H
   (try dsimp only at H)
   have A171 := Aside0.mk A1710
   clear A1710
   replace H := Option.bind_eq_some_iff.mp H
   obtain ⟨⟨t416, t417⟩, A1720, H⟩ := H
   (try dsimp only at H)
   have A172 := Aside0.mk A1720
   clear A1720
   replace H := Option.bind_eq_some_iff.mp H
   obtain ⟨⟨t418, t419, t420⟩, A1730, H⟩ := H
   (try dsimp only at H)
   have A173 := Aside0.mk A1730
   clear A1730
   replace H := Option.bind_eq_some_iff.mp H
   obtain ⟨⟨t421, t422, t423⟩, A1740, H⟩ := H
   (try dsimp only at H)
   have A174 := Aside0.mk A1740
   clear A1740
   have HC175 := Aside0.mk H
   clear H
   go_upto_region 56 with (first | (go_at_call 19; (with_reducible refine (spec_DrawSignatureOfPage.calls _ _ l1 t387 t388 t389 _ ?side1 ?side2 A162.out).mono ?_); (case side1 => repeat (first | exact (Kd.C_below HR1.out HB.out) | (with_reducible refine Kd.C_alloc ?_ _) | (with_reducible refine Kd.C_drewN ?_ _) | (with_reducible refine Kd.C_drew ?_))); (case side2 => exact HC1.out); rintro e w176 ⟨rfl, hb⟩; have n0_ := Aside0.mk (below_step (by repeat (first | (with_reducible first | exact HB.out | apply below_alloc | apply pw_below_drewN | apply below_drew1) | exact HB.out)) hb); clear HB; have HB := n0_; clear n0_; (try clear hb); (try clear hb2); (try clear hk); (try clear hi)) | (go_at_call 20; (with_reducible refine (impl_SignatureOfPage.calls t387 t388 t389 t390 t391 t392 _ A163.out).mono ?_); rintro e w' ⟨rfl, ⟨nd, rfl⟩⟩; (try first | exact ⟨rfl, _, World.drewN_drewN _ _ _⟩ | exact ⟨rfl, _, Eq.trans (World.drewN_drewN _ _ _) (congrArg (World.drewN _) (Nat.add_assoc _ _ _))⟩)) | (go_at_call 21; (with_reducible refine (spec_SignatureOfPage.calls t387 t388 t389 t393 t394 t395 _ A164.out).mono ?_); rintro e w' ⟨rfl, ⟨nd, rfl⟩⟩; (try first | exact ⟨rfl, _, World.drewN_drewN _ _ _⟩ | exact ⟨rfl, _, Eq.trans (World.drewN_drewN _ _ _) (congrArg (World.drewN _) (Nat.add_assoc _ _ _))⟩)) | (go_at_call 22; (with_reducible refine (spec_DrawPageInBook.calls _ _ l1 t396 t397 t398 t399 _ ?side1 ?side2 A165.out).mono ?_); (case side1 => repeat (first | exact (Kd.C_below HR1.out (by repeat (first | (with_reducible first | exact HB.out | apply below_alloc | apply pw_below_drewN | apply below_drew1) | exact HB.out))) | (with_reducible refine Kd.C_alloc ?_ _) | (with_reducible refine Kd.C_drewN ?_ _) | (with_reducible refine Kd.C_drew ?_))); (case side2 => exact HC1.out); rintro e w177 ⟨rfl, hb⟩; have n0_ := Aside0.mk (below_step (by repeat (first | (with_reducible first | exact HB.out | apply below_alloc | apply pw_below_drewN | apply below_drew1) | exact HB.out)) hb); clear HB; have HB := n0_; clear n0_; (try clear hb); (try clear hb2); (try clear hk); (try clear hi)) | (go_at_call 23; (with_reducible refine (impl_PageInBook.calls kj154 t396 t397 t398 t399 t400 t401 _ A166.out).mono ?_); rintro e w' ⟨rfl, ⟨nd, rfl⟩⟩; (try first | exact ⟨rfl, _, World.drewN_drewN _ _ _⟩ | exact ⟨rfl, _, Eq.trans (World.drewN_drewN _ _ _) (congrArg (World.drewN _) (Nat.add_assoc _ _ _))⟩)) | (go_at_call 24; (with_reducible refine (spec_PageInBook.calls kj154 t396 t397 t398 t399 t402 t403 _ A167.out).mono ?_); rintro e w' ⟨rfl, ⟨nd, rfl⟩⟩; (try first | exact ⟨rfl, _, World.drewN_drewN _ _ _⟩ | exact ⟨rfl, _, Eq.trans (World.drewN_drewN _ _ _) (congrArg (World.drewN _) (Nat.add_assoc _ _ _))⟩)) | (go_at_call 25; (with_reducible refine (spec_DrawSewnOpenings.calls _ _ l1 t404 t405 _ ?side1 ?side2 A168.out).mono ?_); (case side1 => repeat (first | exact (Kd.C_below HR1.out (by repeat (first | (with_reducible first | exact HB.out | apply below_alloc | apply pw_below_drewN | apply below_drew1) | exact HB.out))) | (with_reducible refine Kd.C_alloc ?_ _) | (with_reducible refine Kd.C_drewN ?_ _) | (with_reducible refine Kd.C_drew ?_))); (case side2 => exact HC1.out); rintro e w178 ⟨rfl, hb⟩; have n0_ := Aside0.mk (below_step (by repeat (first | (with_reducible first | exact HB.out | apply below_alloc | apply pw_below_drewN | apply below_drew1) | exact HB.out)) hb); clear HB; have HB := n0_; clear n0_; (try clear hb); (try clear hb2); (try clear hk); (try clear hi)) | (go_at_call 26; (with_reducible refine (impl_SewnOpenings.calls kj154 t404 t405 t406 t407 _ A169.out).mono ?_); rintro e w179 ⟨v408, rfl, ho0, hb⟩; have n0_ := Aside0.mk (Kd.R_lower ho0 (below_size (by repeat (first | (with_reducible first | exact HB.out | apply below_alloc | apply pw_below_drewN | apply below_drew1) | exact HB.out)))); have n1_ := Aside0.mk (below_step (by repeat (first | (with_reducible first | exact HB.out | apply below_alloc | apply pw_below_drewN | apply below_drew1) | exact HB.out)) hb); clear HB; have HO409 := n0_; have HB := n1_; clear n0_ n1_; (try clear hb); (try clear hb2); (try clear hk); (try clear hi); (try clear ho0)) | (go_at_call 27; (with_reducible refine (spec_SewnOpenings.calls kj154 t404 t405 t410 t411 _ A170.out).mono ?_); rintro e w180 ⟨v412, rfl, ho0, hb⟩; have n0_ := Aside0.mk (Kd.R_elder' (by (with_reducible repeat (first | apply Kd.R_alloc | apply Kd.R_drewN | apply Kd.R_drew)); exact HO409.out) (Kd.R_base ho0) hb); have n1_ := Aside0.mk (Kd.R_lower (Kd.R_new' ho0 (Kd.R_lt (by (with_reducible repeat (first | apply Kd.R_alloc | apply Kd.R_drewN | apply Kd.R_drew)); exact HO409.out))) (below_size (by repeat (first | (with_reducible first | exact HB.out | apply below_alloc | apply pw_below_drewN | apply below_drew1) | exact HB.out)))); have n2_ := Aside0.mk (below_step (by repeat (first | (with_reducible first | exact HB.out | apply below_alloc | apply pw_below_drewN | apply below_drew1) | exact HB.out)) hb); clear HO409; clear HB; have HO409 := n0_; have HO413 := n1_; have HB := n2_; clear n0_ n1_ n2_; (try clear hb); (try clear hb2); (try clear hk); (try clear hi); (try clear ho0)) | (go_at_call 28; (with_reducible refine (impl_SignaturesFor.calls t404 t405 t414 t415 _ A171.out).mono ?_); rintro e w' ⟨rfl, ⟨nd, rfl⟩⟩; (try first | exact ⟨rfl, _, World.drewN_drewN _ _ _⟩ | exact ⟨rfl, _, Eq.trans (World.drewN_drewN _ _ _) (congrArg (World.drewN _) (Nat.add_assoc _ _ _))⟩)) | (go_at_call 29; (with_reducible refine (spec_SignaturesFor.calls t404 t405 t416 t417 _ A172.out).mono ?_); rintro e w' ⟨rfl, ⟨nd, rfl⟩⟩; (try first | exact ⟨rfl, _, World.drewN_drewN _ _ _⟩ | exact ⟨rfl, _, Eq.trans (World.drewN_drewN _ _ _) (congrArg (World.drewN _) (Nat.add_assoc _ _ _))⟩)) | (go_at_call 30; (with_reducible refine (impl_BestPer.calls kj154 t404 t405 t418 t419 t420 _ A173.out).mono ?_); rintro e w' ⟨rfl, ⟨nd, rfl⟩⟩; (try first | exact ⟨rfl, _, World.drewN_drewN _ _ _⟩ | exact ⟨rfl, _, Eq.trans (World.drewN_drewN _ _ _) (congrArg (World.drewN _) (Nat.add_assoc _ _ _))⟩)) | (go_at_call 31; (with_reducible refine (spec_BestPer.calls kj154 t404 t405 t421 t422 t423 _ A174.out).mono ?_); rintro e w' ⟨rfl, ⟨nd, rfl⟩⟩; (try first | exact ⟨rfl, _, World.drewN_drewN _ _ _⟩ | exact ⟨rfl, _, Eq.trans (World.drewN_drewN _ _ _) (congrArg (World.drewN _) (Nat.add_assoc _ _ _))⟩)))
   repeat (go_quiet (first | (go_at_call 19; (with_reducible refine (spec_DrawSignatureOfPage.calls _ _ l1 t387 t388 t389 _ ?side1 ?side2 A162.out).mono ?_); (case side1 => repeat (first | exact (Kd.C_below HR1.out HB.out) | (with_reducible refine Kd.C_alloc ?_ _) | (with_reducible refine Kd.C_drewN ?_ _) | (with_reducible refine Kd.C_drew ?_))); (case side2 => exact HC1.out); rintro e w176 ⟨rfl, hb⟩; have n0_ := Aside0.mk (below_step (by repeat (first | (with_reducible first | exact HB.out | apply below_alloc | apply pw_below_drewN | apply below_drew1) | exact HB.out)) hb); clear HB; have HB := n0_; clear n0_; (try clear hb); (try clear hb2); (try clear hk); (try clear hi)) | (go_at_call 20; (with_reducible refine (impl_SignatureOfPage.calls t387 t388 t389 t390 t391 t392 _ A163.out).mono ?_); rintro e w' ⟨rfl, ⟨nd, rfl⟩⟩; (try first | exact ⟨rfl, _, World.drewN_drewN _ _ _⟩ | exact ⟨rfl, _, Eq.trans (World.drewN_drewN _ _ _) (congrArg (World.drewN _) (Nat.add_assoc _ _ _))⟩)) | (go_at_call 21; (with_reducible refine (spec_SignatureOfPage.calls t387 t388 t389 t393 t394 t395 _ A164.out).mono ?_); rintro e w' ⟨rfl, ⟨nd, rfl⟩⟩; (try first | exact ⟨rfl, _, World.drewN_drewN _ _ _⟩ | exact ⟨rfl, _, Eq.trans (World.drewN_drewN _ _ _) (congrArg (World.drewN _) (Nat.add_assoc _ _ _))⟩)) | (go_at_call 22; (with_reducible refine (spec_DrawPageInBook.calls _ _ l1 t396 t397 t398 t399 _ ?side1 ?side2 A165.out).mono ?_); (case side1 => repeat (first | exact (Kd.C_below HR1.out (by repeat (first | (with_reducible first | exact HB.out | apply below_alloc | apply pw_below_drewN | apply below_drew1) | exact HB.out))) | (with_reducible refine Kd.C_alloc ?_ _) | (with_reducible refine Kd.C_drewN ?_ _) | (with_reducible refine Kd.C_drew ?_))); (case side2 => exact HC1.out); rintro e w177 ⟨rfl, hb⟩; have n0_ := Aside0.mk (below_step (by repeat (first | (with_reducible first | exact HB.out | apply below_alloc | apply pw_below_drewN | apply below_drew1) | exact HB.out)) hb); clear HB; have HB := n0_; clear n0_; (try clear hb); (try clear hb2); (try clear hk); (try clear hi)) | (go_at_call 23; (with_reducible refine (impl_PageInBook.calls kj154 t396 t397 t398 t399 t400 t401 _ A166.out).mono ?_); rintro e w' ⟨rfl, ⟨nd, rfl⟩⟩; (try first | exact ⟨rfl, _, World.drewN_drewN _ _ _⟩ | exact ⟨rfl, _, Eq.trans (World.drewN_drewN _ _ _) (congrArg (World.drewN _) (Nat.add_assoc _ _ _))⟩)) | (go_at_call 24; (with_reducible refine (spec_PageInBook.calls kj154 t396 t397 t398 t399 t402 t403 _ A167.out).mono ?_); rintro e w' ⟨rfl, ⟨nd, rfl⟩⟩; (try first | exact ⟨rfl, _, World.drewN_drewN _ _ _⟩ | exact ⟨rfl, _, Eq.trans (World.drewN_drewN _ _ _) (congrArg (World.drewN _) (Nat.add_assoc _ _ _))⟩)) | (go_at_call 25; (with_reducible refine (spec_DrawSewnOpenings.calls _ _ l1 t404 t405 _ ?side1 ?side2 A168.out).mono ?_); (case side1 => repeat (first | exact (Kd.C_below HR1.out (by repeat (first | (with_reducible first | exact HB.out | apply below_alloc | apply pw_below_drewN | apply below_drew1) | exact HB.out))) | (with_reducible refine Kd.C_alloc ?_ _) | (with_reducible refine Kd.C_drewN ?_ _) | (with_reducible refine Kd.C_drew ?_))); (case side2 => exact HC1.out); rintro e w178 ⟨rfl, hb⟩; have n0_ := Aside0.mk (below_step (by repeat (first | (with_reducible first | exact HB.out | apply below_alloc | apply pw_below_drewN | apply below_drew1) | exact HB.out)) hb); clear HB; have HB := n0_; clear n0_; (try clear hb); (try clear hb2); (try clear hk); (try clear hi)) | (go_at_call 26; (with_reducible refine (impl_SewnOpenings.calls kj154 t404 t405 t406 t407 _ A169.out).mono ?_); rintro e w179 ⟨v408, rfl, ho0, hb⟩; have n0_ := Aside0.mk (Kd.R_lower ho0 (below_size (by repeat (first | (with_reducible first | exact HB.out | apply below_alloc | apply pw_below_drewN | apply below_drew1) | exact HB.out)))); have n1_ := Aside0.mk (below_step (by repeat (first | (with_reducible first | exact HB.out | apply below_alloc | apply pw_below_drewN | apply below_drew1) | exact HB.out)) hb); clear HB; have HO409 := n0_; have HB := n1_; clear n0_ n1_; (try clear hb); (try clear hb2); (try clear hk); (try clear hi); (try clear ho0)) | (go_at_call 27; (with_reducible refine (spec_SewnOpenings.calls kj154 t404 t405 t410 t411 _ A170.out).mono ?_); rintro e w180 ⟨v412, rfl, ho0, hb⟩; have n0_ := Aside0.mk (Kd.R_elder' (by (with_reducible repeat (first | apply Kd.R_alloc | apply Kd.R_drewN | apply Kd.R_drew)); exact HO409.out) (Kd.R_base ho0) hb); have n1_ := Aside0.mk (Kd.R_lower (Kd.R_new' ho0 (Kd.R_lt (by (with_reducible repeat (first | apply Kd.R_alloc | apply Kd.R_drewN | apply Kd.R_drew)); exact HO409.out))) (below_size (by repeat (first | (with_reducible first | exact HB.out | apply below_alloc | apply pw_below_drewN | apply below_drew1) | exact HB.out)))); have n2_ := Aside0.mk (below_step (by repeat (first | (with_reducible first | exact HB.out | apply below_alloc | apply pw_below_drewN | apply below_drew1) | exact HB.out)) hb); clear HO409; clear HB; have HO409 := n0_; have HO413 := n1_; have HB := n2_; clear n0_ n1_ n2_; (try clear hb); (try clear hb2); (try clear hk); (try clear hi); (try clear ho0)) | (go_at_call 28; (with_reducible refine (impl_SignaturesFor.calls t404 t405 t414 t415 _ A171.out).mono ?_); rintro e w' ⟨rfl, ⟨nd, rfl⟩⟩; (try first | exact ⟨rfl, _, World.drewN_drewN _ _ _⟩ | exact ⟨rfl, _, Eq.trans (World.drewN_drewN _ _ _) (congrArg (World.drewN _) (Nat.add_assoc _ _ _))⟩)) | (go_at_call 29; (with_reducible refine (spec_SignaturesFor.calls t404 t405 t416 t417 _ A172.out).mono ?_); rintro e w' ⟨rfl, ⟨nd, rfl⟩⟩; (try first | exact ⟨rfl, _, World.drewN_drewN _ _ _⟩ | exact ⟨rfl, _, Eq.trans (World.drewN_drewN _ _ _) (congrArg (World.drewN _) (Nat.add_assoc _ _ _))⟩)) | (go_at_call 30; (with_reducible refine (impl_BestPer.calls kj154 t404 t405 t418 t419 t420 _ A173.out).mono ?_); rintro e w' ⟨rfl, ⟨nd, rfl⟩⟩; (try first | exact ⟨rfl, _, World.drewN_drewN _ _ _⟩ | exact ⟨rfl, _, Eq.trans (World.drewN_drewN _ _ _) (congrArg (World.drewN _) (Nat.add_assoc _ _ _))⟩)) | (go_at_call 31; (with_reducible refine (spec_BestPer.calls kj154 t404 t405 t421 t422 t423 _ A174.out).mono ?_); rintro e w' ⟨rfl, ⟨nd, rfl⟩⟩; (try first | exact ⟨rfl, _, World.drewN_drewN _ _ _⟩ | exact ⟨rfl, _, Eq.trans (World.drewN_drewN _ _ _) (congrArg (World.drewN _) (Nat.add_assoc _ _ _))⟩))); go_upto_region 56 with (first | (go_at_call 19; (with_reducible refine (spec_DrawSignatureOfPage.calls _ _ l1 t387 t388 t389 _ ?side1 ?side2 A162.out).mono ?_); (case side1 => repeat (first | exact (Kd.C_below HR1.out HB.out) | (with_reducible refine Kd.C_alloc ?_ _) | (with_reducible refine Kd.C_drewN ?_ _) | (with_reducible refine Kd.C_drew ?_))); (case side2 => exact HC1.out); rintro e w176 ⟨rfl, hb⟩; have n0_ := Aside0.mk (below_step (by repeat (first | (with_reducible first | exact HB.out | apply below_alloc | apply pw_below_drewN | apply below_drew1) | exact HB.out)) hb); clear HB; have HB := n0_; clear n0_; (try clear hb); (try clear hb2); (try clear hk); (try clear hi)) | (go_at_call 20; (with_reducible refine (impl_SignatureOfPage.calls t387 t388 t389 t390 t391 t392 _ A163.out).mono ?_); rintro e w' ⟨rfl, ⟨nd, rfl⟩⟩; (try first | exact ⟨rfl, _, World.drewN_drewN _ _ _⟩ | exact ⟨rfl, _, Eq.trans (World.drewN_drewN _ _ _) (congrArg (World.drewN _) (Nat.add_assoc _ _ _))⟩)) | (go_at_call 21; (with_reducible refine (spec_SignatureOfPage.calls t387 t388 t389 t393 t394 t395 _ A164.out).mono ?_); rintro e w' ⟨rfl, ⟨nd, rfl⟩⟩; (try first | exact ⟨rfl, _, World.drewN_drewN _ _ _⟩ | exact ⟨rfl, _, Eq.trans (World.drewN_drewN _ _ _) (congrArg (World.drewN _) (Nat.add_assoc _ _ _))⟩)) | (go_at_call 22; (with_reducible refine (spec_DrawPageInBook.calls _ _ l1 t396 t397 t398 t399 _ ?side1 ?side2 A165.out).mono ?_); (case side1 => repeat (first | exact (Kd.C_below HR1.out (by repeat (first | (with_reducible first | exact HB.out | apply below_alloc | apply pw_below_drewN | apply below_drew1) | exact HB.out))) | (with_reducible refine Kd.C_alloc ?_ _) | (with_reducible refine Kd.C_drewN ?_ _) | (with_reducible refine Kd.C_drew ?_))); (case side2 => exact HC1.out); rintro e w177 ⟨rfl, hb⟩; have n0_ := Aside0.mk (below_step (by repeat (first | (with_reducible first | exact HB.out | apply below_alloc | apply pw_below_drewN | apply below_drew1) | exact HB.out)) hb); clear HB; have HB := n0_; clear n0_; (try clear hb); (try clear hb2); (try clear hk); (try clear hi)) | (go_at_call 23; (with_reducible refine (impl_PageInBook.calls kj154 t396 t397 t398 t399 t400 t401 _ A166.out).mono ?_); rintro e w' ⟨rfl, ⟨nd, rfl⟩⟩; (try first | exact ⟨rfl, _, World.drewN_drewN _ _ _⟩ | exact ⟨rfl, _, Eq.trans (World.drewN_drewN _ _ _) (congrArg (World.drewN _) (Nat.add_assoc _ _ _))⟩)) | (go_at_call 24; (with_reducible refine (spec_PageInBook.calls kj154 t396 t397 t398 t399 t402 t403 _ A167.out).mono ?_); rintro e w' ⟨rfl, ⟨nd, rfl⟩⟩; (try first | exact ⟨rfl, _, World.drewN_drewN _ _ _⟩ | exact ⟨rfl, _, Eq.trans (World.drewN_drewN _ _ _) (congrArg (World.drewN _) (Nat.add_assoc _ _ _))⟩)) | (go_at_call 25; (with_reducible refine (spec_DrawSewnOpenings.calls _ _ l1 t404 t405 _ ?side1 ?side2 A168.out).mono ?_); (case side1 => repeat (first | exact (Kd.C_below HR1.out (by repeat (first | (with_reducible first | exact HB.out | apply below_alloc | apply pw_below_drewN | apply below_drew1) | exact HB.out))) | (with_reducible refine Kd.C_alloc ?_ _) | (with_reducible refine Kd.C_drewN ?_ _) | (with_reducible refine Kd.C_drew ?_))); (case side2 => exact HC1.out); rintro e w178 ⟨rfl, hb⟩; have n0_ := Aside0.mk (below_step (by repeat (first | (with_reducible first | exact HB.out | apply below_alloc | apply pw_below_drewN | apply below_drew1) | exact HB.out)) hb); clear HB; have HB := n0_; clear n0_; (try clear hb); (try clear hb2); (try clear hk); (try clear hi)) | (go_at_call 26; (with_reducible refine (impl_SewnOpenings.calls kj154 t404 t405 t406 t407 _ A169.out).mono ?_); rintro e w179 ⟨v408, rfl, ho0, hb⟩; have n0_ := Aside0.mk (Kd.R_lower ho0 (below_size (by repeat (first | (with_reducible first | exact HB.out | apply below_alloc | apply pw_below_drewN | apply below_drew1) | exact HB.out)))); have n1_ := Aside0.mk (below_step (by repeat (first | (with_reducible first | exact HB.out | apply below_alloc | apply pw_below_drewN | apply below_drew1) | exact HB.out)) hb); clear HB; have HO409 := n0_; have HB := n1_; clear n0_ n1_; (try clear hb); (try clear hb2); (try clear hk); (try clear hi); (try clear ho0)) | (go_at_call 27; (with_reducible refine (spec_SewnOpenings.calls kj154 t404 t405 t410 t411 _ A170.out).mono ?_); rintro e w180 ⟨v412, rfl, ho0, hb⟩; have n0_ := Aside0.mk (Kd.R_elder' (by (with_reducible repeat (first | apply Kd.R_alloc | apply Kd.R_drewN | apply Kd.R_drew)); exact HO409.out) (Kd.R_base ho0) hb); have n1_ := Aside0.mk (Kd.R_lower (Kd.R_new' ho0 (Kd.R_lt (by (with_reducible repeat (first | apply Kd.R_alloc | apply Kd.R_drewN | apply Kd.R_drew)); exact HO409.out))) (below_size (by repeat (first | (with_reducible first | exact HB.out | apply below_alloc | apply pw_below_drewN | apply below_drew1) | exact HB.out)))); have n2_ := Aside0.mk (below_step (by repeat (first | (with_reducible first | exact HB.out | apply below_alloc | apply pw_below_drewN | apply below_drew1) | exact HB.out)) hb); clear HO409; clear HB; have HO409 := n0_; have HO413 := n1_; have HB := n2_; clear n0_ n1_ n2_; (try clear hb); (try clear hb2); (try clear hk); (try clear hi); (try clear ho0)) | (go_at_call 28; (with_reducible refine (impl_SignaturesFor.calls t404 t405 t414 t415 _ A171.out).mono ?_); rintro e w' ⟨rfl, ⟨nd, rfl⟩⟩; (try first | exact ⟨rfl, _, World.drewN_drewN _ _ _⟩ | exact ⟨rfl, _, Eq.trans (World.drewN_drewN _ _ _) (congrArg (World.drewN _) (Nat.add_assoc _ _ _))⟩)) | (go_at_call 29; (with_reducible refine (spec_SignaturesFor.calls t404 t405 t416 t417 _ A172.out).mono ?_); rintro e w' ⟨rfl, ⟨nd, rfl⟩⟩; (try first | exact ⟨rfl, _, World.drewN_drewN _ _ _⟩ | exact ⟨rfl, _, Eq.trans (World.drewN_drewN _ _ _) (congrArg (World.drewN _) (Nat.add_assoc _ _ _))⟩)) | (go_at_call 30; (with_reducible refine (impl_BestPer.calls kj154 t404 t405 t418 t419 t420 _ A173.out).mono ?_); rintro e w' ⟨rfl, ⟨nd, rfl⟩⟩; (try first | exact ⟨rfl, _, World.drewN_drewN _ _ _⟩ | exact ⟨rfl, _, Eq.trans (World.drewN_drewN _ _ _) (congrArg (World.drewN _) (Nat.add_assoc _ _ _))⟩)) | (go_at_call 31; (with_reducible refine (spec_BestPer.calls kj154 t404 t405 t421 t422 t423 _ A174.out).mono ?_); rintro e w' ⟨rfl, ⟨nd, rfl⟩⟩; (try first | exact ⟨rfl, _, World.drewN_drewN _ _ _⟩ | exact ⟨rfl, _, Eq.trans (World.drewN_drewN _ _ _) (congrArg (World.drewN _) (Nat.add_assoc _ _ _))⟩))))
   (try simp only [Act.put, List.setIfInBounds_toArray, List.set_cons_zero, List.set_cons_succ])
   go_cut [507] from 351 to 507 (fun v507 wc => ∃ (kq : Nat) (x507_174 : Bool), v507 = .bool x507_174 ∧ Aside0 (laws_FnFoldsStack.j8 kq t387 t388 t389 t390 t391 t392 t396 t397 t398 t399 t400 t401 t404 t405 t406 t407 t414 t418 t419 x507_174 = some true) ∧ Aside0 (kq ≤ kj154) ∧ Aside0 (Kd.R (Kd.int .i64) 3 wc w.heap.size (fun _ => True) v408 t406) ∧ Aside0 (Below w.heap.size w wc))
   case first =>
    try clear A3; try clear A5; try clear A6; try clear A7; try clear A8; try clear A9; try clear A10; try clear A11; try clear A12; try clear A13; try clear A14; try clear A15; try clear A29; try clear A34; try clear A135; try clear A162; try clear A163; try clear A164; try clear A165; try clear A166; try clear A167; try clear A168; try clear A169; try clear A170; try clear A171; try clear A172; try clear A173; try clear A174
    (try simp only [List.append_eq, List.cons_append, List.nil_append])
    have H := HC175.out
    clear HC175
    by_cases c181 : (t392 != t395) = true
    ·rw [if_pos c181] at H
     have c181b0 : (t392 != t395) = true := c181
     (try (have c181b1 : decide (t392 = t395) = false := by simpa using c181))
     (try (have c181b2 : (t392 == t395) = false := by simpa using c181))
     (try (have c181b3 : ¬ (t392 = t395) := by simpa using c181))
     clear c181
     (first | rw [c181b0] | (simp only [i64_w, i32_w]; rw [c181b0]) | skip)
     exact absurd H laws_FnFoldsStack.j8_dead
    ·rw [if_neg c181] at H
     have c181b0 : t392 = t395 := by simpa using c181
     clear c181
     subst c181b0
     by_cases c182 : t390 = t393
     ·rw [if_pos c182] at H
      subst c182
      by_cases c183 : t391 = t394
      ·rw [if_pos c183] at H
       subst c183
       by_cases c184 : (t401 != t403) = true
       ·rw [if_pos c184] at H
        have c184b0 : (t401 != t403) = true := c184
        (try (have c184b1 : decide (t401 = t403) = false := by simpa using c184))
        (try (have c184b2 : (t401 == t403) = false := by simpa using c184))
        (try (have c184b3 : ¬ (t401 = t403) := by simpa using c184))
        clear c184
        exact absurd H laws_FnFoldsStack.j8_dead
       ·rw [if_neg c184] at H
        have c184b0 : t401 = t403 := by simpa using c184
        clear c184
        subst c184b0
        by_cases c185 : t400 = t402
        ·rw [if_pos c185] at H
         subst c185
         by_cases c186 : (t407 != t411) = true
         ·rw [if_pos c186] at H
          have c186b0 : (t407 != t411) = true := c186
          (try (have c186b1 : decide (t407 = t411) = false := by simpa using c186))
          (try (have c186b2 : (t407 == t411) = false := by simpa using c186))
          (try (have c186b3 : ¬ (t407 = t411) := by simpa using c186))
          clear c186
          exact absurd H laws_FnFoldsStack.j8_dead
         ·rw [if_neg c186] at H
          have c186b0 : t407 = t411 := by simpa using c186
          clear c186
          subst c186b0
          replace H := Option.bind_eq_some_iff.mp H
          obtain ⟨t424, A1870, H⟩ := H
          (try dsimp only at H)
          have A187 := Aside0.mk A1870
          clear A1870
          by_cases c188 : t424 = true
          ·subst c188
           rw [if_pos rfl] at H
           by_cases c189 : (t415 != t417) = true
           ·rw [if_pos c189] at H
            have c189b0 : (t415 != t417) = true := c189
            (try (have c189b1 : decide (t415 = t417) = false := by simpa using c189))
            (try (have c189b2 : (t415 == t417) = false := by simpa using c189))
            (try (have c189b3 : ¬ (t415 = t417) := by simpa using c189))
            clear c189
            exact absurd H laws_FnFoldsStack.j8_dead
           ·rw [if_neg c189] at H
            have c189b0 : t415 = t417 := by simpa using c189
            clear c189
            subst c189b0
            by_cases c192 : t414 = t416
            ·rw [if_pos c192] at H
             subst c192
             by_cases c193 : (t420 != t423) = true
             ·rw [if_pos c193] at H
              have c193b0 : (t420 != t423) = true := c193
              (try (have c193b1 : decide (t420 = t423) = false := by simpa using c193))
              (try (have c193b2 : (t420 == t423) = false := by simpa using c193))
              (try (have c193b3 : ¬ (t420 = t423) := by simpa using c193))
              clear c193
              exact absurd H laws_FnFoldsStack.j8_dead
             ·rw [if_neg c193] at H
              have c193b0 : t420 = t423 := by simpa using c193
              clear c193
              subst c193b0
              by_cases c196 : t418 = t421
              ·rw [if_pos c196] at H
               subst c196
               by_cases c197 : t419 = t422
               ·rw [if_pos c197] at H
                subst c197
                by_cases c198 : (t415 != t407) = true
                ·rw [if_pos c198] at H
                 have c198b0 : (t415 != t407) = true := c198
                 (try (have c198b1 : decide (t415 = t407) = false := by simpa using c198))
                 (try (have c198b2 : (t415 == t407) = false := by simpa using c198))
                 (try (have c198b3 : ¬ (t415 = t407) := by simpa using c198))
                 clear c198
                 exact absurd H laws_FnFoldsStack.j8_dead
                ·rw [if_neg c198] at H
                 have c198b0 : t407 = t415 := (show t415 = t407 from by simpa using c198).symm
                 clear c198
                 subst c198b0
                 have H' := Aside0.mk H
                 clear H
                 obtain ⟨Ao201, co201, eo201⟩ := Kd.R_slice HO409.out
                 subst eo201
                 obtain ⟨Ao202, co202, eo202⟩ := Kd.R_slice HO413.out
                 subst eo202
                 go_wp2_with (first | (go_at_call 18; (with_reducible refine (laws_fSame.calls kj154 _ _ t406 _ _ t410 true _ ?side1 ?side2 ?side3 ?side4 A187.out).mono ?_); (case side1 => repeat (first | exact (Kd.R_reads' HO409.out).2.2 | (with_reducible refine Kd.C_alloc ?_ _) | (with_reducible refine Kd.C_drewN ?_ _) | (with_reducible refine Kd.C_drew ?_))); (case side2 => exact (Kd.R_reads' HO409.out).2.1); (case side3 => repeat (first | exact (Kd.R_reads' HO413.out).2.2 | (with_reducible refine Kd.C_alloc ?_ _) | (with_reducible refine Kd.C_drewN ?_ _) | (with_reducible refine Kd.C_drew ?_))); (case side4 => exact (Kd.R_reads' HO413.out).2.1); rintro e w' ⟨rfl, ⟨nd, rfl⟩⟩; (try first | exact ⟨rfl, _, World.drewN_drewN _ _ _⟩ | exact ⟨rfl, _, Eq.trans (World.drewN_drewN _ _ _) (congrArg (World.drewN _) (Nat.add_assoc _ _ _))⟩)))
                 repeat (go_quiet (first | (go_at_call 18; (with_reducible refine (laws_fSame.calls kj154 _ _ t406 _ _ t410 true _ ?side1 ?side2 ?side3 ?side4 A187.out).mono ?_); (case side1 => repeat (first | exact (Kd.R_reads' HO409.out).2.2 | (with_reducible refine Kd.C_alloc ?_ _) | (with_reducible refine Kd.C_drewN ?_ _) | (with_reducible refine Kd.C_drew ?_))); (case side2 => exact (Kd.R_reads' HO409.out).2.1); (case side3 => repeat (first | exact (Kd.R_reads' HO413.out).2.2 | (with_reducible refine Kd.C_alloc ?_ _) | (with_reducible refine Kd.C_drewN ?_ _) | (with_reducible refine Kd.C_drew ?_))); (case side4 => exact (Kd.R_reads' HO413.out).2.1); rintro e w' ⟨rfl, ⟨nd, rfl⟩⟩; (try first | exact ⟨rfl, _, World.drewN_drewN _ _ _⟩ | exact ⟨rfl, _, Eq.trans (World.drewN_drewN _ _ _) (congrArg (World.drewN _) (Nat.add_assoc _ _ _))⟩))); try go_wp2_with (first | (go_at_call 18; (with_reducible refine (laws_fSame.calls kj154 _ _ t406 _ _ t410 true _ ?side1 ?side2 ?side3 ?side4 A187.out).mono ?_); (case side1 => repeat (first | exact (Kd.R_reads' HO409.out).2.2 | (with_reducible refine Kd.C_alloc ?_ _) | (with_reducible refine Kd.C_drewN ?_ _) | (with_reducible refine Kd.C_drew ?_))); (case side2 => exact (Kd.R_reads' HO409.out).2.1); (case side3 => repeat (first | exact (Kd.R_reads' HO413.out).2.2 | (with_reducible refine Kd.C_alloc ?_ _) | (with_reducible refine Kd.C_drewN ?_ _) | (with_reducible refine Kd.C_drew ?_))); (case side4 => exact (Kd.R_reads' HO413.out).2.1); rintro e w' ⟨rfl, ⟨nd, rfl⟩⟩; (try first | exact ⟨rfl, _, World.drewN_drewN _ _ _⟩ | exact ⟨rfl, _, Eq.trans (World.drewN_drewN _ _ _) (congrArg (World.drewN _) (Nat.add_assoc _ _ _))⟩))))
                 go_meet
                 case rel => exact ⟨_, ((t420 != t407)), (by first | rfl | (simp; done) | (simp [*]; done)), H', ⟨by first | omega | exact Nat.le_refl _⟩, ⟨by (with_reducible repeat (first | apply Kd.R_alloc | apply Kd.R_drewN | apply Kd.R_drew)); exact Kd.R_mono HO409.out (fun _ hk => trivial)⟩, ⟨by repeat (first | (with_reducible first | exact HB.out | apply below_alloc | apply pw_below_drewN | apply below_drew1) | exact HB.out)⟩⟩
               ·rw [if_neg c197] at H
                have c197b0 : (t419 == t422) = false := beq_eq_false_iff_ne.mpr c197
                have c197b1 : (t419 != t422) = true := bne_iff_ne.mpr c197
                exact absurd H laws_FnFoldsStack.j8_dead
              ·rw [if_neg c196] at H
               have c196b0 : (t418 == t421) = false := beq_eq_false_iff_ne.mpr c196
               have c196b1 : (t418 != t421) = true := bne_iff_ne.mpr c196
               exact absurd H laws_FnFoldsStack.j8_dead
            ·rw [if_neg c192] at H
             have c192b0 : (t414 == t416) = false := beq_eq_false_iff_ne.mpr c192
             have c192b1 : (t414 != t416) = true := bne_iff_ne.mpr c192
             exact absurd H laws_FnFoldsStack.j8_dead
          ·replace c188 := Bool.eq_false_iff.mpr c188
           subst c188
           rw [if_neg (show ¬ (false = true) by decide)] at H
           exact absurd H laws_FnFoldsStack.j8_dead
        ·rw [if_neg c185] at H
         have c185b0 : (t400 == t402) = false := beq_eq_false_iff_ne.mpr c185
         have c185b1 : (t400 != t402) = true := bne_iff_ne.mpr c185
         exact absurd H laws_FnFoldsStack.j8_dead
      ·rw [if_neg c183] at H
       have c183b0 : (t391 == t394) = false := beq_eq_false_iff_ne.mpr c183
       have c183b1 : (t391 != t394) = true := bne_iff_ne.mpr c183
       exact absurd H laws_FnFoldsStack.j8_dead
     ·rw [if_neg c182] at H
      have c182b0 : (t390 == t393) = false := beq_eq_false_iff_ne.mpr c182
      have c182b1 : (t390 != t393) = true := bne_iff_ne.mpr c182
      exact absurd H laws_FnFoldsStack.j8_dead
   case rest =>
    clear HC175
    try clear p1; try clear q1; try clear hx1; try clear p2; try clear p3; try clear q3; try clear hx3; try clear p6; try clear c10; try clear c11; try clear c12; try clear p12; try clear q12; try clear hx12; try clear c13; try clear p13; try clear q13; try clear hx13; try clear c14; try clear c15; try clear c16; try clear c18; try clear c19; try clear c26; try clear c26b0; try clear c26b1; try clear c26b2; try clear c27; try clear c27b0; try clear c27b1; try clear c28; try clear c28b0; try clear c28b1; try clear c28b2; try clear c30; try clear c31; try clear c31b0; try clear c31b1; try clear c31b2; try clear c35; try clear c36; try clear c36b0; try clear c36b1; try clear c36b2; try clear p38; try clear q38; try clear hx38; try clear c41; try clear c41b0; try clear c41b1; try clear c42; try clear c42b0; try clear c42b1; try clear c42b2; try clear c47; try clear c47b0; try clear c47b1; try clear c48; try clear c48b0; try clear c48b1; try clear c48b2; try clear c53; try clear c53b0; try clear c53b1; try clear c53b2; try clear c58; try clear c59; try clear c60; try clear p64; try clear c73; try clear c96; try clear c98; try clear c99; try clear c99b0; try clear c101; try clear c101b0; try clear c101b1; try clear c102; try clear c102b0; try clear c102b1; try clear c108; try clear c110; try clear c110b0; try clear c111; try clear c111b0; try clear c112; try clear c112b0; try clear c113; try clear c113b0; try clear c114; try clear c114b0; try clear c116; try clear c116b0; try clear c117; try clear c117b0; try clear c118; try clear c118b0; try clear c118b1; try clear c120; try clear c120b0; try clear c121; try clear c121b0; try clear c121b1; try clear c122; try clear c122b0; try clear c123; try clear c123b0; try clear p124; try clear q124; try clear hx124; try clear c125; try clear c125b0; try clear c125b1; try clear c126; try clear c126b0; try clear c127; try clear c127b0; try clear p128; try clear q128; try clear hx128; try clear c130; try clear c130b0; try clear c131; try clear c131b0; try clear p132; try clear q132; try clear hx132; try clear c133; try clear c133b0; try clear c133b1; try clear c134; try clear c134b0; try clear c136; try clear c138; try clear c138b0; try clear c138b1; try clear c139; try clear c139b0; try clear c139b1; try clear c140; try clear c140b0; try clear c140b1; try clear c143; try clear c145; try clear c145b0; try clear c146; try clear c146b0; try clear c147; try clear c147b0; try clear c147b1; try clear c149; try clear c149b0; try clear c150; try clear c150b0; try clear c154; try clear c156; try clear c158; try clear c158b0; try clear c158b1; try clear c159; try clear c159b0; try clear c159b1; try clear c160; try clear c160b0; try clear c160b1; try clear c161; try clear c181; try clear c181b0; try clear c181b1; try clear c181b2; try clear c182; try clear c182b0; try clear c182b1; try clear c183; try clear c183b0; try clear c183b1; try clear c184; try clear c184b0; try clear c184b1; try clear c184b2; try clear c185; try clear c185b0; try clear c185b1; try clear c186; try clear c186b0; try clear c186b1; try clear c186b2; try clear c188; try clear c189; try clear c189b0; try clear c189b1; try clear c189b2; try clear c192; try clear c192b0; try clear c192b1; try clear c193; try clear c193b0; try clear c193b1; try clear c193b2; try clear c196; try clear c196b0; try clear c196b1; try clear c197; try clear c197b0; try clear c197b1; try clear c198; try clear c198b0; try clear c198b1; try clear c198b2; try clear hx381_0; try clear hx382_0; try clear hx385_0; try clear hx386_0; try clear p1; try clear p12; try clear p124; try clear p128; try clear p13; try clear p132; try clear p2; try clear p3; try clear p38; try clear p381; try clear p382; try clear p385; try clear p386; try clear p6; try clear p64; try clear q1; try clear q12; try clear q124; try clear q128; try clear q13; try clear q132; try clear q3; try clear q38; try clear q381; try clear q382; try clear q385; try clear q386
    obtain ⟨kq, x507_174, rfl, HA, HJ174, HO_53, HB⟩ := hcut
    rename_i K1 a1 K0 a0
    exact nx w t387 t388 t389 t390 t391 t392 t396 t397 t398 t399 t400 t401 t404 t405 t406 t407 t414 t418 t419 v408 kq x507_174 wc HA HO_53 HB _ _ _ _ _ _ _ _ _ _ _ _ _ _ _ _ _ _ _ _ _ _ _ _ _ _ _ _ _ _ _ _ _ _ _ _ _ _ _ _ _ _ _ _ _ _ _ _ _ _ _ _ _ _ _ _ _ _ _ _ _ _ _ _ _ _ _ _ _ _ _ _ _ _ _ _ _ _ _ _ _ _ _ _ _ _ _ _ _ _ _ _ _ _ _ _ _ _ _ _ _ _ _ _ _ _ _ _ _ _ _ _ _ _ _ _ _ _ _ _ _ _ _ _ _ _ _ _ _ _ _ _ _ _ _ _ _ _ _ _ _ _ _ _ _ _ _ _ _ _ _ _ _ _ _ _ _ _ _ _ _ _ _ _ _ _ _ _ _ _ _ _ _ _ _ _ _ _ _ _ _ _ _ _ _ _ _ _ _ _ _ _ _ _ _ _ _ _ _ _ _ _ _ _ _ _ _ _ _ _ _ _ _ _ _ _ _ _ _ _ _ _ _ _ _ _ _ _ _ _ _ _ _ _ _ _ _ _ _ _ _ _ _ _ _ _ _ _ _ _ _ _ _ _ _ _ _ _ _ _ _ _ _ _ _ _ _ _ _ _ _ _ _ _ _ _ _ _ _ _ _ _ _ _ _ _ _ _ _ _ _ _ _ _ _ _ _ _ _ _ _ _ _ _ _ _ _ _ _ _ _ _ _ _ _ _ _ _ _ _ _ _ _ _ _ _ _ _ _ _ _ _ _ _ _ _ _ _ _ _ _ _ _ _ _ _ _ _ _ _ _ _ _ _ _ _ _ _ _ _ _ _ _ _ _ _ _ _ _ _ _ _ _ _ _ _ _ _ _ _ _ _ _ _ _ _ _ _ _ _ _ _ _ _ _ _ _ _ _ _ _ _ _ _ _ _ _ _ _ _ _ _ _ _ _ _ _ _ _ _ _ _ _ _ _ _ _ _ _ _ _ _ _ _ _ _ _ _ _ _ _ _ _ _ _ _ _ _ _ _ _ _ _ _ _ _ _ _ _ _ _ _ _ _ _ _ _ _ _ _ _ _ _ _ _ _ _ _ _ _ _ _ _ _ _ _ _ _ _ _ _ _ _ _ _ _ _ _ _ _ _ _ _ _ _ _ _ _ _ _ _ _ _ _ _ _ _ _ _ _ _ _ _ _ _ _ _ _ _ _ _ _ _ _ _ _ _ _ _ _ _ _ _ _ _ _ _ _ _ _ _ _ _ _ _ _ _ _ _ _ _ _ _ _ _ _ _ _ _ _ _ _ _ _ _ _ _ _ _ _ _ _ _ _ _ _ _ _ _ _ _ _ _ _ _ _ _ _ _ _ _ _ _ _ _ _ _ _ _ _ _ _ _ _ _ _ _ _ _ _ _ _ _ _ _ _ _ _ _ _ _ _ _ _ _ _ _ _ _ _ _ K1 a1 K0 a0

end Go.Proofs.Ytjkfgeigicljpaa.PFnFoldsStack
