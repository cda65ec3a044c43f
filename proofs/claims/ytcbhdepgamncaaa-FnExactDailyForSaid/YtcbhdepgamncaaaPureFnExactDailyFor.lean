/- The program's DailyFor returns what the reference's DailyFor returns: the plain statement, over numbers and lists, for all arguments; each number of its Go kind, each string and slice within the reader's bounds. -/
import Derived.Test.YtcbhdepgamncaaaPFnExactDailyForx1
namespace Go.Proofs.Ytcbhdepgamncaaa.Pure
open Go.RowKit Go.Proofs.Ytcbhdepgamncaaa.PFnExactDailyFor Go.Proofs.YtcbhdepgamncaaaW.PrintWords Go.Proofs.YtcbhdepgamncaaaW.PrintLast
set_option linter.unusedVariables false
set_option linter.unusedSimpArgs false

theorem w64 {x : Int} (h0 : -9223372036854775808 ≤ x) (h1 : x ≤ 9223372036854775807) : wrap64 x = x := by unfold wrap64; omega
theorem td {a b : Int} (h : 0 ≤ a) : Int.tdiv a b = a / b := Int.tdiv_eq_ediv_of_nonneg h
theorem tm {a b : Int} (h : 0 ≤ a) : Int.tmod a b = a % b := Int.tmod_eq_emod_of_nonneg h
theorem wf64 {n : Int} (h : (Lit.int .i64 n).wf = true) : -9223372036854775808 ≤ n ∧ n ≤ 9223372036854775807 := by
  simp [Lit.wf, IntKind.min, IntKind.max, IntKind.signed, IntKind.bits] at h
  omega
theorem in_spec (a b c : Int) : spec_l1In.f a b c = some (decide (b ≤ a ∧ a ≤ c)) := by
  unfold spec_l1In.f; by_cases h : b ≤ a <;> simp [h]
theorem in_impl (a b c : Int) : impl_within.f a b c = some (decide (b ≤ a ∧ a ≤ c)) := by
  unfold impl_within.f; by_cases h : b ≤ a <;> simp [h]
theorem book_spec (a : Int) : spec_bpBook.f a = some (decide (1 ≤ a ∧ a ≤ 2000)) := by simp [spec_bpBook.f, in_spec]
theorem book_impl (a : Int) : impl_isBook.f a = some (decide (1 ≤ a ∧ a ≤ 2000)) := by simp [impl_isBook.f, in_impl]

/-- YOURS: ∀ (a0 : Int) (a1 : Int) (a2 : Int), (Lit.int .i64 a0).wf = true → (Lit.int .i64 a1).wf = true → (Lit.int .i64 a2).wf = true → laws_FnExactDailyFor.f a0 a1 a2 = some true
What it reaches (each with k first where it has rounds; `.mono`: more rounds tell the same; `.l0`, ..: its loops, with `.mono_l`): spec_l1In.f, spec_bpBook.f, spec_rdPlan.f, spec_l1Most.f, spec_DailyFor.f, impl_within.f, impl_isBook.f, impl_isDay.f, impl_isMarked.f, impl_DailyFor.f, laws_FnExactDailyFor.f -/
theorem FnExactDailyFor : laws_FnExactDailyFor.Pure := by
  intro a0 a1 a2 _ _ _
  unfold laws_FnExactDailyFor.f spec_DailyFor.f impl_DailyFor.f spec_rdPlan.f impl_isMarked.f impl_isDay.f
  simp only [book_spec, book_impl, in_spec, in_impl]
  by_cases hb : 1 ≤ a0 ∧ a0 ≤ 2000
  · by_cases hc : 0 ≤ a1 ∧ a1 ≤ a0
    · by_cases hd : 1 ≤ a2 ∧ a2 ≤ 3000
      · have hz : a2 ≠ 0 := by omega
        simp only [hb, hc, hd, and_self, decide_true, Option.bind_some, if_true, if_neg hz]
        generalize wrap64 (Int.tdiv (wrap64 ((wrap64 ((wrap64 (a0 - a1)) + a2)) - 1)) a2) = q
        have e : spec_l1Most.f 1 q = some (mx 1 q) := by
          unfold spec_l1Most.f mx
          by_cases h : 1 < q
          · rw [if_neg (by omega), if_pos h]
          · by_cases h2 : (1 : Int) > q
            · rw [if_pos h2, if_neg h]
            · rw [if_neg h2, if_neg h]; congr 1; omega
        rw [e]
        simp only [Option.bind_some]
        by_cases h : mx 1 q > 200 <;> simp [h]
      · simp [hb, hc, hd]
    · simp [hb, hc]
  · simp [hb]

end Go.Proofs.Ytcbhdepgamncaaa.Pure
