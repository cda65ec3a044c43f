/- The program's BlankPages returns what the reference's BlankPages returns: the plain statement, over numbers and lists, for all arguments; each number of its Go kind, each string and slice within the reader's bounds. -/
import Derived.Test.YtcbhdepgamncaaaPFnExactBlankPagesx1
namespace Go.Proofs.Ytcbhdepgamncaaa.Pure
open Go.RowKit Go.Proofs.Ytcbhdepgamncaaa.PFnExactBlankPages Go.Proofs.YtcbhdepgamncaaaW.PrintWords Go.Proofs.YtcbhdepgamncaaaW.PrintLast
set_option linter.unusedVariables false
set_option linter.unusedSimpArgs false

theorem w64 {x : Int} (h0 : -9223372036854775808 ≤ x) (h1 : x ≤ 9223372036854775807) : wrap64 x = x := by unfold wrap64; omega
theorem td {a b : Int} (h : 0 ≤ a) : Int.tdiv a b = a / b := Int.tdiv_eq_ediv_of_nonneg h
theorem tm {a b : Int} (h : 0 ≤ a) : Int.tmod a b = a % b := Int.tmod_eq_emod_of_nonneg h
theorem wf64 {n : Int} (h : (Lit.int .i64 n).wf = true) : -9223372036854775808 ≤ n ∧ n ≤ 9223372036854775807 := by
  simp [Lit.wf, IntKind.min, IntKind.max, IntKind.signed, IntKind.bits] at h
  omega
theorem in_spec (a b c : Int) : spec_l1In.f a b c = some (decide (b ≤ a ∧ a ≤ c)) := by
  unfold spec_l1In.f; by_cases h : b ≤ a <;> simp [h]
theorem in_impl (a b c : Int) : impl_within.f a b c = some (decide (b ≤ a ∧ a ≤ c)) := by
  unfold impl_within.f; by_cases h : b ≤ a <;> simp [h]
theorem fobook_spec (a : Int) : spec_foBook.f a = some (decide (1 ≤ a ∧ a ≤ 2000)) := by simp [spec_foBook.f, in_spec]
theorem isbook_impl (a : Int) : impl_isBook.f a = some (decide (1 ≤ a ∧ a ≤ 2000)) := by simp [impl_isBook.f, in_impl]

/-- YOURS: ∀ (a0 : Int), (Lit.int .i64 a0).wf = true → laws_FnExactBlankPages.f a0 = some true
What it reaches (each with k first where it has rounds; `.mono`: more rounds tell the same; `.l0`, ..: its loops, with `.mono_l`): spec_l1In.f, spec_foBook.f, spec_BlankPages.f, impl_within.f, impl_isBook.f, impl_SheetsFor.f, impl_BlankPages.f, laws_FnExactBlankPages.f -/
theorem FnExactBlankPages : laws_FnExactBlankPages.Pure := by
  intro a0 _
  unfold laws_FnExactBlankPages.f spec_BlankPages.f impl_BlankPages.f impl_SheetsFor.f
  rw [fobook_spec, isbook_impl]
  by_cases hb : 1 ≤ a0 ∧ a0 ≤ 2000 <;> simp [hb, Int.mul_comm]

end Go.Proofs.Ytcbhdepgamncaaa.Pure
