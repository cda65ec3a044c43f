/- The program's SignatureOfPage returns what the reference's SignatureOfPage returns: the plain statement, over numbers and lists, for all arguments; each number of its Go kind, each string and slice within the reader's bounds. -/
import Derived.Test.YteimbmjipbjkdaaPFnExactSignatureOfPagex1
namespace Go.Proofs.Yteimbmjipbjkdaa.Pure
open Go.RowKit Go.Proofs.Yteimbmjipbjkdaa.PFnExactSignatureOfPage Go.Proofs.YteimbmjipbjkdaaW.PrintWords Go.Proofs.YteimbmjipbjkdaaW.PrintLast
set_option linter.unusedVariables false
set_option linter.unusedSimpArgs false

theorem w64 {x : Int} (h0 : -9223372036854775808 ≤ x) (h1 : x ≤ 9223372036854775807) : wrap64 x = x := by unfold wrap64; omega
theorem td {a b : Int} (h : 0 ≤ a) : Int.tdiv a b = a / b := Int.tdiv_eq_ediv_of_nonneg h
theorem tm {a b : Int} (h : 0 ≤ a) : Int.tmod a b = a % b := Int.tmod_eq_emod_of_nonneg h
theorem wf64 {n : Int} (h : (Lit.int .i64 n).wf = true) : -9223372036854775808 ≤ n ∧ n ≤ 9223372036854775807 := by
  simp [Lit.wf, IntKind.min, IntKind.max, IntKind.signed, IntKind.bits] at h
  omega
theorem in_spec (a b c : Int) : spec_l1In.f a b c = some (decide (b ≤ a ∧ a ≤ c)) := by
  unfold spec_l1In.f; by_cases h : b ≤ a <;> simp [h]
theorem in_impl (a b c : Int) : impl_within.f a b c = some (decide (b ≤ a ∧ a ≤ c)) := by
  unfold impl_within.f; by_cases h : b ≤ a <;> simp [h]
theorem fobook_spec (a : Int) : spec_foBook.f a = some (decide (1 ≤ a ∧ a ≤ 2000)) := by simp [spec_foBook.f, in_spec]
theorem isbook_impl (a : Int) : impl_isBook.f a = some (decide (1 ≤ a ∧ a ≤ 2000)) := by simp [impl_isBook.f, in_impl]
theorem both_spec (a b : Int) : spec_foBoth.f a b = some (decide ((1 ≤ a ∧ a ≤ 2000) ∧ 1 ≤ b ∧ b ≤ 16)) := by
  unfold spec_foBoth.f
  rw [fobook_spec, in_spec]
  by_cases h : 1 ≤ a ∧ a ≤ 2000 <;> simp [h]
theorem bound_impl (a b : Int) : impl_isBound.f a b = some (decide ((1 ≤ a ∧ a ≤ 2000) ∧ 1 ≤ b ∧ b ≤ 16)) := by
  unfold impl_isBound.f
  rw [isbook_impl, in_impl]
  by_cases h : 1 ≤ a ∧ a ≤ 2000 <;> simp [h]

/-- YOURS: ∀ (a0 : Int) (a1 : Int) (a2 : Int), (Lit.int .i64 a0).wf = true → (Lit.int .i64 a1).wf = true → (Lit.int .i64 a2).wf = true → laws_FnExactSignatureOfPage.f a0 a1 a2 = some true
What it reaches (each with k first where it has rounds; `.mono`: more rounds tell the same; `.l0`, ..: its loops, with `.mono_l`): spec_l1In.f, spec_foBook.f, spec_foBoth.f, spec_SignatureOfPage.f, impl_within.f, impl_isBook.f, impl_isBound.f, impl_SignatureOfPage.f, laws_FnExactSignatureOfPage.f -/
theorem FnExactSignatureOfPage : laws_FnExactSignatureOfPage.Pure := by
  intro a0 a1 a2 _ _ _
  unfold laws_FnExactSignatureOfPage.f spec_SignatureOfPage.f impl_SignatureOfPage.f
  rw [both_spec, bound_impl, in_spec, in_impl]
  by_cases hb : (1 ≤ a0 ∧ a0 ≤ 2000) ∧ 1 ≤ a1 ∧ a1 ≤ 16
  · have hz : wrap64 (4 * a1) ≠ 0 := by rw [w64 (by omega) (by omega)]; omega
    by_cases hc : 1 ≤ a2 ∧ a2 ≤ a0
    · simp [hb, hc, hz]
    · simp [hb, hc]
  · simp [hb]

end Go.Proofs.Yteimbmjipbjkdaa.Pure
