/- The program's PageInBook returns what the reference's PageInBook returns: the plain statement, over numbers and lists, for all arguments; each number of its Go kind, each string and slice within the reader's bounds. -/
import Derived.Test.YtcbhdepgamncaaaPFnExactPageInBookx1
namespace Go.Proofs.Ytcbhdepgamncaaa.Pure
open Go.RowKit Go.Proofs.Ytcbhdepgamncaaa.PFnExactPageInBook Go.Proofs.YtcbhdepgamncaaaW.PrintWords Go.Proofs.YtcbhdepgamncaaaW.PrintLast
set_option linter.unusedVariables false
set_option linter.unusedSimpArgs false

theorem w64 {x : Int} (h0 : -9223372036854775808 ≤ x) (h1 : x ≤ 9223372036854775807) : wrap64 x = x := by unfold wrap64; omega
theorem td {a b : Int} (h : 0 ≤ a) : Int.tdiv a b = a / b := Int.tdiv_eq_ediv_of_nonneg h
theorem tm {a b : Int} (h : 0 ≤ a) : Int.tmod a b = a % b := Int.tmod_eq_emod_of_nonneg h
theorem wf64 {n : Int} (h : (Lit.int .i64 n).wf = true) : -9223372036854775808 ≤ n ∧ n ≤ 9223372036854775807 := by
  simp [Lit.wf, IntKind.min, IntKind.max, IntKind.signed, IntKind.bits] at h
  omega
theorem in_spec (a b c : Int) : spec_l1In.f a b c = some (decide (b ≤ a ∧ a ≤ c)) := by
  unfold spec_l1In.f; by_cases h : b ≤ a <;> simp [h]
theorem in_impl (a b c : Int) : impl_within.f a b c = some (decide (b ≤ a ∧ a ≤ c)) := by
  unfold impl_within.f; by_cases h : b ≤ a <;> simp [h]
theorem fobook_spec (a : Int) : spec_foBook.f a = some (decide (1 ≤ a ∧ a ≤ 2000)) := by simp [spec_foBook.f, in_spec]
theorem isbook_impl (a : Int) : impl_isBook.f a = some (decide (1 ≤ a ∧ a ≤ 2000)) := by simp [impl_isBook.f, in_impl]
theorem both_spec (a b : Int) : spec_foBoth.f a b = some (decide ((1 ≤ a ∧ a ≤ 2000) ∧ 1 ≤ b ∧ b ≤ 16)) := by
  unfold spec_foBoth.f
  rw [fobook_spec, in_spec]
  by_cases h : 1 ≤ a ∧ a ≤ 2000 <;> simp [h]
theorem bound_impl (a b : Int) : impl_isBound.f a b = some (decide ((1 ≤ a ∧ a ≤ 2000) ∧ 1 ≤ b ∧ b ≤ 16)) := by
  unfold impl_isBound.f
  rw [isbook_impl, in_impl]
  by_cases h : 1 ≤ a ∧ a ≤ 2000 <;> simp [h]
theorem no_such {a p s q : Int} (h0 : 1 ≤ a) (h1 : a ≤ 2000) (h2 : 1 ≤ p) (h3 : p ≤ 16) (h4 : 1 ≤ q) (hs : 1 ≤ s) (hs2 : s ≤ 2000) :
    ((a + 4 * p - 1) / (4 * p) ≤ 2000) ∧ (¬ s ≤ (a + 4 * p - 1) / (4 * p) → (s - 1) * 4 * p + q > a) := by
  have h : p = 1 ∨ p = 2 ∨ p = 3 ∨ p = 4 ∨ p = 5 ∨ p = 6 ∨ p = 7 ∨ p = 8 ∨ p = 9 ∨ p = 10 ∨ p = 11 ∨ p = 12 ∨ p = 13 ∨ p = 14 ∨ p = 15 ∨ p = 16 := by omega
  rcases h with rfl | rfl | rfl | rfl | rfl | rfl | rfl | rfl | rfl | rfl | rfl | rfl | rfl | rfl | rfl | rfl <;> omega
theorem at_bd {a p s q : Int} (h2 : 1 ≤ p) (h3 : p ≤ 16) (h4 : 1 ≤ q) (h5 : q ≤ 4 * p) (hs : 1 ≤ s) (hs2 : s ≤ 2000) :
    0 ≤ (s - 1) * 4 * p ∧ (s - 1) * 4 * p ≤ 128000 := by
  have h : p = 1 ∨ p = 2 ∨ p = 3 ∨ p = 4 ∨ p = 5 ∨ p = 6 ∨ p = 7 ∨ p = 8 ∨ p = 9 ∨ p = 10 ∨ p = 11 ∨ p = 12 ∨ p = 13 ∨ p = 14 ∨ p = 15 ∨ p = 16 := by omega
  rcases h with rfl | rfl | rfl | rfl | rfl | rfl | rfl | rfl | rfl | rfl | rfl | rfl | rfl | rfl | rfl | rfl <;> omega

/-- YOURS: ∀ (a0 : Int) (a1 : Int) (a2 : Int) (a3 : Int), (Lit.int .i64 a0).wf = true → (Lit.int .i64 a1).wf = true → (Lit.int .i64 a2).wf = true → (Lit.int .i64 a3).wf = true → ∃ k, laws_FnExactPageInBook.f k a0 a1 a2 a3 = some true
What it reaches (each with k first where it has rounds; `.mono`: more rounds tell the same; `.l0`, ..: its loops, with `.mono_l`): spec_l1In.f, spec_foBook.f, spec_foBoth.f, spec_PageInBook.f, impl_within.f, impl_isBook.f, impl_isBound.f, impl_signatures.f, impl_PageInBook.f, laws_FnExactPageInBook.f -/
theorem FnExactPageInBook : laws_FnExactPageInBook.Pure := by
  intro a0 a1 a2 a3 _ _ _ _
  refine ⟨1, ?_⟩
  unfold laws_FnExactPageInBook.f spec_PageInBook.f impl_PageInBook.f impl_signatures.f
  simp only [spec_PageInBook.j0, impl_PageInBook.j0, both_spec, bound_impl, in_spec, in_impl]
  by_cases hb : (1 ≤ a0 ∧ a0 ≤ 2000) ∧ 1 ≤ a1 ∧ a1 ≤ 16
  · have e : wrap64 (4 * a1) = 4 * a1 := w64 (by omega) (by omega)
    have hz : ¬ 4 * a1 = 0 := by omega
    have hq : wrap64 (Int.tdiv (wrap64 (wrap64 (a0 + 4 * a1) - 1)) (4 * a1)) = (a0 + 4 * a1 - 1) / (4 * a1) := by
      rw [w64 (x := a0 + 4 * a1) (by omega) (by omega), w64 (x := a0 + 4 * a1 - 1) (by omega) (by omega), td (by omega)]
      have h := no_such (a := a0) (p := a1) (s := 1) (q := 1) (by omega) (by omega) (by omega) (by omega) (by omega) (by omega) (by omega)
      have h0 : 0 ≤ (a0 + 4 * a1 - 1) / (4 * a1) := Int.ediv_nonneg (by omega) (by omega)
      exact w64 (by omega) (by omega)
    rw [e, hq, if_neg hz]
    simp only [hb, and_self, decide_true, Option.bind_some, if_true]
    by_cases hc : 1 ≤ a3 ∧ a3 ≤ 4 * a1
    · by_cases hd : 1 ≤ a2 ∧ a2 ≤ 2000
      · have hn := no_such (a := a0) (p := a1) (s := a2) (q := a3) (by omega) (by omega) (by omega) (by omega) (by omega) (by omega) (by omega)
        have hbd := at_bd (a := a0) (p := a1) (s := a2) (q := a3) (by omega) (by omega) (by omega) (by omega) (by omega) (by omega)
        have hw : wrap64 (wrap64 (wrap64 (wrap64 (a2 - 1) * 4) * a1) + a3) = (a2 - 1) * 4 * a1 + a3 := by
          rw [w64 (x := a2 - 1) (by omega) (by omega), w64 (x := (a2 - 1) * 4) (by omega) (by omega), w64 (x := (a2 - 1) * 4 * a1) (by omega) (by omega), w64 (by omega) (by omega)]
        rw [hw]
        by_cases hs : a2 ≤ (a0 + 4 * a1 - 1) / (4 * a1)
        · by_cases hg : (a2 - 1) * 4 * a1 + a3 > a0 <;> simp [hc, hd, hs, hg]
        · have hg := hn.2 hs
          simp [hc, hd, hs, hg]
      · have hn := no_such (a := a0) (p := a1) (s := 1) (q := 1) (by omega) (by omega) (by omega) (by omega) (by omega) (by omega) (by omega)
        have hs : ¬ (1 ≤ a2 ∧ a2 ≤ (a0 + 4 * a1 - 1) / (4 * a1)) := by omega
        simp [hc, hd, hs]
    · by_cases hs : 1 ≤ a2 ∧ a2 ≤ (a0 + 4 * a1 - 1) / (4 * a1) <;> simp [hc, hs]
  · simp [hb]

end Go.Proofs.Ytcbhdepgamncaaa.Pure
