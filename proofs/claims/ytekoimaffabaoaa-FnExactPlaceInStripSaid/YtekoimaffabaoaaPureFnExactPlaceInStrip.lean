/- The program's PlaceInStrip returns what the reference's PlaceInStrip returns: the plain statement, over numbers and lists, for all arguments; each number of its Go kind, each string and slice within the reader's bounds. -/
import Derived.Test.YtekoimaffabaoaaPFnExactPlaceInStripx3
namespace Go.Proofs.Ytekoimaffabaoaa.Pure
open Go.RowKit Go.Proofs.Ytekoimaffabaoaa.PFnExactPlaceInStrip Go.Proofs.YtekoimaffabaoaaW.PrintWords Go.Proofs.YtekoimaffabaoaaW.PrintLast
set_option linter.unusedVariables false
set_option linter.unusedSimpArgs false

theorem w64 {x : Int} (h0 : -9223372036854775808 ≤ x) (h1 : x ≤ 9223372036854775807) : wrap64 x = x := by unfold wrap64; omega
theorem td {a b : Int} (h : 0 ≤ a) : Int.tdiv a b = a / b := Int.tdiv_eq_ediv_of_nonneg h
theorem tm {a b : Int} (h : 0 ≤ a) : Int.tmod a b = a % b := Int.tmod_eq_emod_of_nonneg h
theorem wf64 {n : Int} (h : (Lit.int .i64 n).wf = true) : -9223372036854775808 ≤ n ∧ n ≤ 9223372036854775807 := by
  simp [Lit.wf, IntKind.min, IntKind.max, IntKind.signed, IntKind.bits] at h
  omega
theorem in_spec (a b c : Int) : spec_l1In.f a b c = some (decide (b ≤ a ∧ a ≤ c)) := by
  unfold spec_l1In.f; by_cases h : b ≤ a <;> simp [h]
theorem in_impl (a b c : Int) : impl_within.f a b c = some (decide (b ≤ a ∧ a ≤ c)) := by
  unfold impl_within.f; by_cases h : b ≤ a <;> simp [h]
theorem tab : ∀ n : Nat, n < 8 → ∀ p : Nat, p < 2 ^ n → laws_FnExactPlaceInStrip.f 2500 (n : Int) ((p : Int) + 1) = some true := by decide +kernel
theorem shl_tab : ∀ n : Nat, n < 8 → shl .i64 1 (n : Int) = ((2 ^ n : Nat) : Int) := by decide +kernel

/-- YOURS: ∀ (a0 : Int) (a1 : Int), (Lit.int .i64 a0).wf = true → (Lit.int .i64 a1).wf = true → ∃ k, laws_FnExactPlaceInStrip.f k a0 a1 = some true
What it reaches (each with k first where it has rounds; `.mono`: more rounds tell the same; `.l0`, ..: its loops, with `.mono_l`): spec_l1In.f, spec_foFolds.f, spec_foStrip.f, spec_PlaceInStrip.f, impl_within.f, impl_isFolds.f, slices_Index_int_int.f, slices_Clone_int_int.f, slices_Reverse_int_int.f, impl_strip.f, impl_PlaceInStrip.f, laws_FnExactPlaceInStrip.f -/
theorem FnExactPlaceInStrip : laws_FnExactPlaceInStrip.Pure := by
  intro a0 a1 _ _
  by_cases h : 0 ≤ a0 ∧ a0 ≤ 7
  · obtain ⟨n, rfl⟩ := Int.eq_ofNat_of_zero_le h.1
    by_cases h1 : 1 ≤ a1 ∧ a1 ≤ ((2 ^ n : Nat) : Int)
    · obtain ⟨p, hp⟩ := Int.eq_ofNat_of_zero_le (show 0 ≤ a1 - 1 by omega)
      obtain rfl : a1 = (p : Int) + 1 := by omega
      exact ⟨2500, tab n (by omega) p (by omega)⟩
    · refine ⟨1, ?_⟩
      unfold laws_FnExactPlaceInStrip.f spec_PlaceInStrip.f impl_PlaceInStrip.f spec_foFolds.f impl_isFolds.f
      simp only [in_spec, in_impl, shl_tab n (by omega), decide_eq_true h, decide_eq_false h1, Option.bind_some, if_true, Bool.not_false]
      simp only [spec_PlaceInStrip.j0, impl_PlaceInStrip.j0]
      simp
  · refine ⟨1, ?_⟩
    unfold laws_FnExactPlaceInStrip.f spec_PlaceInStrip.f impl_PlaceInStrip.f spec_foFolds.f impl_isFolds.f
    simp only [in_spec, in_impl, decide_eq_false h, Option.bind_some]
    simp only [spec_PlaceInStrip.j0, impl_PlaceInStrip.j0]
    simp

end Go.Proofs.Ytekoimaffabaoaa.Pure
