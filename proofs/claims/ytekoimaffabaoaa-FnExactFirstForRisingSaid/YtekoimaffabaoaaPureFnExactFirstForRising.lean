/- The program's FirstForRising returns what the reference's FirstForRising returns: the plain statement, over numbers and lists, for all arguments; each number of its Go kind, each string and slice within the reader's bounds. -/
import Derived.Test.YtekoimaffabaoaaPFnExactFirstForRisingx1
namespace Go.Proofs.Ytekoimaffabaoaa.Pure
open Go.RowKit Go.Proofs.Ytekoimaffabaoaa.PFnExactFirstForRising Go.Proofs.YtekoimaffabaoaaW.PrintWords Go.Proofs.YtekoimaffabaoaaW.PrintLast
set_option linter.unusedVariables false
set_option linter.unusedSimpArgs false

theorem w64 {x : Int} (h0 : -9223372036854775808 ≤ x) (h1 : x ≤ 9223372036854775807) : wrap64 x = x := by unfold wrap64; omega
theorem td {a b : Int} (h : 0 ≤ a) : Int.tdiv a b = a / b := Int.tdiv_eq_ediv_of_nonneg h
theorem tm {a b : Int} (h : 0 ≤ a) : Int.tmod a b = a % b := Int.tmod_eq_emod_of_nonneg h
theorem wf64 {n : Int} (h : (Lit.int .i64 n).wf = true) : -9223372036854775808 ≤ n ∧ n ≤ 9223372036854775807 := by
  simp [Lit.wf, IntKind.min, IntKind.max, IntKind.signed, IntKind.bits] at h
  omega
theorem in_spec (a b c : Int) : spec_l1In.f a b c = some (decide (b ≤ a ∧ a ≤ c)) := by
  unfold spec_l1In.f; by_cases h : b ≤ a <;> simp [h]
theorem in_impl (a b c : Int) : impl_within.f a b c = some (decide (b ≤ a ∧ a ≤ c)) := by
  unfold impl_within.f; by_cases h : b ≤ a <;> simp [h]
theorem book_spec (a : Int) : spec_bpBook.f a = some (decide (1 ≤ a ∧ a ≤ 2000)) := by simp [spec_bpBook.f, in_spec]
theorem book_impl (a : Int) : impl_isBook.f a = some (decide (1 ≤ a ∧ a ≤ 2000)) := by simp [impl_isBook.f, in_impl]
theorem rising_loop {m : Int} (h2 : 0 ≤ m) (h3 : m ≤ 200) (d : Nat) : ∀ (x f : Int) (l : List Int), 0 ≤ x → x ≤ d → x ≤ 2000 → 1 ≤ f → f + 200 * d ≤ 1000000 → l.length + x ≤ 2000 →
    ∃ out : List Int, ∀ k, d < k → spec_rdRising.l0 k x f m l = some out ∧ impl_rising.l0 k f m l x = some out := by
  induction d with
  | zero =>
    intro x f l h0 h1 _ _ _ _
    refine ⟨l, fun k hk => ?_⟩
    obtain ⟨k, rfl⟩ : ∃ m, k = m + 1 := ⟨k - 1, by omega⟩
    rw [spec_rdRising.l0, impl_rising.l0, if_neg (show ¬ x > 0 by omega), if_neg (show ¬ x > 0 by omega)]
    exact ⟨rfl, rfl⟩
  | succ d ih =>
    intro x f l h0 h1 h4 h5 h6 h7
    by_cases c : x > 0
    · have e : spec_l1Least.f x f = some (mn f x) := by
        unfold spec_l1Least.f mn
        by_cases h : x < f
        · rw [if_pos h, if_pos h]
        · rw [if_neg h, if_neg h]
      have b : 1 ≤ mn f x ∧ mn f x ≤ x := by
        unfold mn
        by_cases h : x < f
        · rw [if_pos h]; omega
        · rw [if_neg h]; omega
      obtain ⟨out, ho⟩ := ih (x - mn f x) (f + m) (l ++ [mn f x]) (by omega) (by omega) (by omega) (by omega) (by omega) (by simp; omega)
      refine ⟨out, fun k hk => ?_⟩
      obtain ⟨k, rfl⟩ : ∃ m, k = m + 1 := ⟨k - 1, by omega⟩
      have g := ho k (by omega)
      refine ⟨?_, ?_⟩
      · rw [spec_rdRising.l0, if_pos c, e]
        simp only [Option.bind_some]
        rw [if_pos (show l.length < 17592186044416 by omega), w64 (x := x - mn f x) (by omega) (by omega), w64 (x := f + m) (by omega) (by omega)]
        exact g.1
      · rw [impl_rising.l0, if_pos c, if_pos (show l.length < 17592186044416 by omega), w64 (x := x - mn f x) (by omega) (by omega), w64 (x := f + m) (by omega) (by omega)]
        exact g.2
    · refine ⟨l, fun k hk => ?_⟩
      obtain ⟨k, rfl⟩ : ∃ m, k = m + 1 := ⟨k - 1, by omega⟩
      rw [spec_rdRising.l0, impl_rising.l0, if_neg c, if_neg c]
      exact ⟨rfl, rfl⟩
theorem rising_both {p f m : Int} (h0 : 1 ≤ p) (h1 : p ≤ 2000) (hf : 1 ≤ f) (hf1 : f ≤ 200) (h2 : 0 ≤ m) (h3 : m ≤ 200) :
    ∃ out : List Int, ∀ k, 2000 < k → spec_rdRising.f k p f m = some out ∧ impl_rising.f k p f m = some out :=
  rising_loop h2 h3 2000 p f [] (by omega) (by omega) (by omega) hf (by omega) (by simp; omega)
theorem first_loop {p days m : Int} (h0 : 1 ≤ p) (h1 : p ≤ 2000) (h2 : 0 ≤ m) (h3 : m ≤ 200) (d : Nat) : ∀ x : Int, 1 ≤ x → x + d = 201 →
    ∃ r : Int × Bool, ∀ k, 2001 + d < k → spec_FirstForRising.l0 k p days m x = some r ∧ impl_FirstForRising.l0 k p days m x = some r := by
  induction d with
  | zero =>
    intro x h4 h5
    refine ⟨(0, false), fun k hk => ?_⟩
    obtain ⟨k, rfl⟩ : ∃ m, k = m + 1 := ⟨k - 1, by omega⟩
    rw [spec_FirstForRising.l0, impl_FirstForRising.l0, if_neg (show ¬ x ≤ 200 by omega), if_neg (show ¬ x ≤ 200 by omega)]
    exact ⟨rfl, rfl⟩
  | succ d ih =>
    intro x h4 h5
    obtain ⟨out, ho⟩ := rising_both (f := x) h0 h1 h4 (by omega) h2 h3
    by_cases c : (out.length : Int) ≤ days
    · refine ⟨(x, true), fun k hk => ?_⟩
      obtain ⟨k, rfl⟩ : ∃ m, k = m + 1 := ⟨k - 1, by omega⟩
      have g := ho k (by omega)
      refine ⟨?_, ?_⟩
      · rw [spec_FirstForRising.l0, if_pos (show x ≤ 200 by omega), g.1]
        simp only [Option.bind_some]
        rw [if_pos c]
      · rw [impl_FirstForRising.l0, if_pos (show x ≤ 200 by omega), g.2]
        simp only [Option.bind_some]
        rw [if_pos c]
    · obtain ⟨r, hr⟩ := ih (x + 1) (by omega) (by omega)
      refine ⟨r, fun k hk => ?_⟩
      obtain ⟨k, rfl⟩ : ∃ m, k = m + 1 := ⟨k - 1, by omega⟩
      have g := ho k (by omega)
      have g2 := hr k (by omega)
      refine ⟨?_, ?_⟩
      · rw [spec_FirstForRising.l0, if_pos (show x ≤ 200 by omega), g.1]
        simp only [Option.bind_some]
        rw [if_neg c, w64 (x := x + 1) (by omega) (by omega)]
        exact g2.1
      · rw [impl_FirstForRising.l0, if_pos (show x ≤ 200 by omega), g.2]
        simp only [Option.bind_some]
        rw [if_neg c, w64 (x := x + 1) (by omega) (by omega)]
        exact g2.2

/-- YOURS: ∀ (a0 : Int) (a1 : Int) (a2 : Int), (Lit.int .i64 a0).wf = true → (Lit.int .i64 a1).wf = true → (Lit.int .i64 a2).wf = true → ∃ k, laws_FnExactFirstForRising.f k a0 a1 a2 = some true
What it reaches (each with k first where it has rounds; `.mono`: more rounds tell the same; `.l0`, ..: its loops, with `.mono_l`): spec_l1In.f, spec_bpBook.f, spec_l1Least.f, spec_rdRising.f, spec_FirstForRising.f, impl_within.f, impl_isBook.f, impl_isDay.f, impl_isMore.f, impl_rising.f, impl_FirstForRising.f, laws_FnExactFirstForRising.f -/
theorem FnExactFirstForRising : laws_FnExactFirstForRising.Pure := by
  intro a0 a1 a2 _ _ _
  by_cases hb : 1 ≤ a0 ∧ a0 ≤ 2000
  · by_cases hc : 1 ≤ a1 ∧ a1 ≤ 3000
    · by_cases hd : 0 ≤ a2 ∧ a2 ≤ 200
      · obtain ⟨r, hr⟩ := first_loop (days := a1) hb.1 hb.2 hd.1 hd.2 200 1 (by omega) (by omega)
        refine ⟨3001, ?_⟩
        unfold laws_FnExactFirstForRising.f spec_FirstForRising.f impl_FirstForRising.f impl_isDay.f impl_isMore.f
        simp only [book_spec, book_impl, in_spec, in_impl, decide_eq_true hb, decide_eq_true hc, decide_eq_true hd, Option.bind_some, if_true, Bool.not_true]
        rw [spec_FirstForRising.j0, impl_FirstForRising.j0, if_neg (by decide), if_neg (by decide), (hr 3000 (by omega)).1, (hr 3000 (by omega)).2]
        simp
      · refine ⟨1, ?_⟩
        unfold laws_FnExactFirstForRising.f spec_FirstForRising.f impl_FirstForRising.f impl_isDay.f impl_isMore.f
        simp only [book_spec, book_impl, in_spec, in_impl, decide_eq_true hb, decide_eq_true hc, decide_eq_false hd, Option.bind_some, if_true, Bool.not_false]
        simp only [spec_FirstForRising.j0, impl_FirstForRising.j0]
        simp
    · refine ⟨1, ?_⟩
      unfold laws_FnExactFirstForRising.f spec_FirstForRising.f impl_FirstForRising.f impl_isDay.f impl_isMore.f
      simp only [book_spec, book_impl, in_spec, in_impl, decide_eq_true hb, decide_eq_false hc, Option.bind_some, if_true]
      simp only [spec_FirstForRising.j0, impl_FirstForRising.j0]
      simp
  · refine ⟨1, ?_⟩
    unfold laws_FnExactFirstForRising.f spec_FirstForRising.f impl_FirstForRising.f impl_isDay.f impl_isMore.f
    simp only [book_spec, book_impl, in_spec, in_impl, decide_eq_false hb, Option.bind_some]
    simp only [spec_FirstForRising.j0, impl_FirstForRising.j0]
    simp

end Go.Proofs.Ytekoimaffabaoaa.Pure
