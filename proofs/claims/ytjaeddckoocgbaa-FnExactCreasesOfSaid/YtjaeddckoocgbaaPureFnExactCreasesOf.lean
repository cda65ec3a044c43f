/- The program's CreasesOf returns what the reference's CreasesOf returns: the plain statement, over numbers and lists, for all arguments; each number of its Go kind, each string and slice within the reader's bounds. -/
import Derived.Test.YtjaeddckoocgbaaPFnExactCreasesOfx1
namespace Go.Proofs.Ytjaeddckoocgbaa.Pure
open Go.RowKit Go.Proofs.Ytjaeddckoocgbaa.PFnExactCreasesOf Go.Proofs.YtjaeddckoocgbaaW.PrintWords Go.Proofs.YtjaeddckoocgbaaW.PrintLast
set_option linter.unusedVariables false
set_option linter.unusedSimpArgs false

theorem w64 {x : Int} (h0 : -9223372036854775808 ≤ x) (h1 : x ≤ 9223372036854775807) : wrap64 x = x := by unfold wrap64; omega
theorem td {a b : Int} (h : 0 ≤ a) : Int.tdiv a b = a / b := Int.tdiv_eq_ediv_of_nonneg h
theorem tm {a b : Int} (h : 0 ≤ a) : Int.tmod a b = a % b := Int.tmod_eq_emod_of_nonneg h
theorem wf64 {n : Int} (h : (Lit.int .i64 n).wf = true) : -9223372036854775808 ≤ n ∧ n ≤ 9223372036854775807 := by
  simp [Lit.wf, IntKind.min, IntKind.max, IntKind.signed, IntKind.bits] at h
  omega
theorem in_spec (a b c : Int) : spec_l1In.f a b c = some (decide (b ≤ a ∧ a ≤ c)) := by
  unfold spec_l1In.f; by_cases h : b ≤ a <;> simp [h]
theorem in_impl (a b c : Int) : impl_within.f a b c = some (decide (b ≤ a ∧ a ≤ c)) := by
  unfold impl_within.f; by_cases h : b ≤ a <;> simp [h]
/-- The creases, as the program computes them. -/
def creaseV (n : Nat) : ByteArray := (impl_creases.f 3000 (n : Int)).getD ⟨#[]⟩
theorem crease_tab : ∀ n : Nat, n < 8 → spec_foCreases.f 3000 (n : Int) = some (creaseV n) ∧ impl_creases.f 3000 (n : Int) = some (creaseV n) ∧ (creaseV n).size = 2 ^ n - 1 := by decide +kernel
theorem shl_tab : ∀ n : Nat, n < 8 → shl .i64 1 (n : Int) = ((2 ^ n : Nat) : Int) := by decide +kernel
theorem pow_le : ∀ n : Nat, n < 8 → 1 ≤ 2 ^ n ∧ 2 ^ n ≤ 128 := by decide +kernel

/-- YOURS: ∀ (a0 : Int), (Lit.int .i64 a0).wf = true → ∃ k, laws_FnExactCreasesOf.f k a0 = some true
What it reaches (each with k first where it has rounds; `.mono`: more rounds tell the same; `.l0`, ..: its loops, with `.mono_l`): spec_l1In.f, spec_foFolds.f, spec_foCreases.f, spec_CreasesOf.f, impl_within.f, impl_isFolds.f, strings_Join.f, impl_creases.f, impl_CreasesOf.f, laws_FnExactCreasesOf.f -/
theorem FnExactCreasesOf : laws_FnExactCreasesOf.Pure := by
  intro a0 _
  by_cases h : 0 ≤ a0 ∧ a0 ≤ 7
  · obtain ⟨n, rfl⟩ := Int.eq_ofNat_of_zero_le h.1
    obtain ⟨t1, t2, _⟩ := crease_tab n (by omega)
    refine ⟨3000, ?_⟩
    unfold laws_FnExactCreasesOf.f spec_CreasesOf.f impl_CreasesOf.f spec_foFolds.f impl_isFolds.f
    rw [in_spec, in_impl, decide_eq_true h]
    simp only [Option.bind_some, if_true]
    rw [t1, t2]
    simp
  · refine ⟨0, ?_⟩
    unfold laws_FnExactCreasesOf.f spec_CreasesOf.f impl_CreasesOf.f spec_foFolds.f impl_isFolds.f
    rw [in_spec, in_impl, decide_eq_false h]
    simp

end Go.Proofs.Ytjaeddckoocgbaa.Pure
