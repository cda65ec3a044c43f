/- The program's FacingPage returns what the reference's FacingPage returns: the plain statement, over numbers and lists, for all arguments; each number of its Go kind, each string and slice within the reader's bounds. -/
import Derived.Test.YtcbhdepgamncaaaPFnExactFacingPagex1
namespace Go.Proofs.Ytcbhdepgamncaaa.Pure
open Go.RowKit Go.Proofs.Ytcbhdepgamncaaa.PFnExactFacingPage Go.Proofs.YtcbhdepgamncaaaW.PrintWords Go.Proofs.YtcbhdepgamncaaaW.PrintLast
set_option linter.unusedVariables false
set_option linter.unusedSimpArgs false

theorem w64 {x : Int} (h0 : -9223372036854775808 ≤ x) (h1 : x ≤ 9223372036854775807) : wrap64 x = x := by unfold wrap64; omega
theorem td {a b : Int} (h : 0 ≤ a) : Int.tdiv a b = a / b := Int.tdiv_eq_ediv_of_nonneg h
theorem tm {a b : Int} (h : 0 ≤ a) : Int.tmod a b = a % b := Int.tmod_eq_emod_of_nonneg h
theorem wf64 {n : Int} (h : (Lit.int .i64 n).wf = true) : -9223372036854775808 ≤ n ∧ n ≤ 9223372036854775807 := by
  simp [Lit.wf, IntKind.min, IntKind.max, IntKind.signed, IntKind.bits] at h
  omega
theorem in_spec (a b c : Int) : spec_l1In.f a b c = some (decide (b ≤ a ∧ a ≤ c)) := by
  unfold spec_l1In.f; by_cases h : b ≤ a <;> simp [h]
theorem in_impl (a b c : Int) : impl_within.f a b c = some (decide (b ≤ a ∧ a ≤ c)) := by
  unfold impl_within.f; by_cases h : b ≤ a <;> simp [h]
theorem book_spec (a : Int) : spec_bpBook.f a = some (decide (1 ≤ a ∧ a ≤ 2000)) := by simp [spec_bpBook.f, in_spec]
theorem book_impl (a : Int) : impl_isBook.f a = some (decide (1 ≤ a ∧ a ≤ 2000)) := by simp [impl_isBook.f, in_impl]
theorem xor_tab : ∀ n : Nat, n < 2001 → Go.bits .xor .i64 (n : Int) 1 = if n % 2 = 0 then (n : Int) + 1 else (n : Int) - 1 := by decide +kernel
theorem xor1 {a : Int} (h0 : 0 ≤ a) (h1 : a ≤ 2000) : Go.bits .xor .i64 a 1 = if a % 2 = 0 then a + 1 else a - 1 := by
  obtain ⟨n, rfl⟩ := Int.eq_ofNat_of_zero_le h0
  rw [xor_tab n (by omega)]
  by_cases h : n % 2 = 0
  · rw [if_pos h, if_pos (by omega)]
  · rw [if_neg h, if_neg (by omega)]

/-- YOURS: ∀ (a0 : Int) (a1 : Int), (Lit.int .i64 a0).wf = true → (Lit.int .i64 a1).wf = true → ∃ k, laws_FnExactFacingPage.f k a0 a1 = some true
What it reaches (each with k first where it has rounds; `.mono`: more rounds tell the same; `.l0`, ..: its loops, with `.mono_l`): spec_l1In.f, spec_bpBook.f, spec_FacingPage.f, impl_within.f, impl_isBook.f, impl_FacingPage.f, laws_FnExactFacingPage.f -/
theorem FnExactFacingPage : laws_FnExactFacingPage.Pure := by
  intro a0 a1 _ _
  refine ⟨1, ?_⟩
  unfold laws_FnExactFacingPage.f spec_FacingPage.f impl_FacingPage.f
  simp only [spec_FacingPage.j0]
  rw [book_spec, book_impl]
  simp only [in_spec, in_impl]
  by_cases hb : 1 ≤ a0 ∧ a0 ≤ 2000
  · by_cases hc : 1 ≤ a1 ∧ a1 ≤ a0
    · rw [xor1 (by omega) (by omega), tm (by omega), w64 (x := a1 + 1) (by omega) (by omega), w64 (x := a1 - 1) (by omega) (by omega)]
      by_cases c : a1 % 2 = 0
      · by_cases d : 1 ≤ a1 + 1 ∧ a1 + 1 ≤ a0 <;> simp [hb, hc, c, d]
      · by_cases d : 1 ≤ a1 - 1 ∧ a1 - 1 ≤ a0 <;> simp [hb, hc, c, d]
    · simp [hb, hc]
  · simp [hb]

end Go.Proofs.Ytcbhdepgamncaaa.Pure
