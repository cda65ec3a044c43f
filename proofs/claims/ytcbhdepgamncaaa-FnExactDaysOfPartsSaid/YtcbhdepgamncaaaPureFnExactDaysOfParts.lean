/- The program's DaysOfParts returns what the reference's DaysOfParts returns: the plain statement, over numbers and lists, for all arguments; each number of its Go kind, each string and slice within the reader's bounds. -/
import Derived.Test.YtcbhdepgamncaaaPFnExactDaysOfPartsx1
namespace Go.Proofs.Ytcbhdepgamncaaa.Pure
open Go.RowKit Go.Proofs.Ytcbhdepgamncaaa.PFnExactDaysOfParts Go.Proofs.YtcbhdepgamncaaaW.PrintWords Go.Proofs.YtcbhdepgamncaaaW.PrintLast
set_option linter.unusedVariables false
set_option linter.unusedSimpArgs false

theorem w64 {x : Int} (h0 : -9223372036854775808 ≤ x) (h1 : x ≤ 9223372036854775807) : wrap64 x = x := by unfold wrap64; omega
theorem td {a b : Int} (h : 0 ≤ a) : Int.tdiv a b = a / b := Int.tdiv_eq_ediv_of_nonneg h
theorem tm {a b : Int} (h : 0 ≤ a) : Int.tmod a b = a % b := Int.tmod_eq_emod_of_nonneg h
theorem wf64 {n : Int} (h : (Lit.int .i64 n).wf = true) : -9223372036854775808 ≤ n ∧ n ≤ 9223372036854775807 := by
  simp [Lit.wf, IntKind.min, IntKind.max, IntKind.signed, IntKind.bits] at h
  omega
theorem in_spec (a b c : Int) : spec_l1In.f a b c = some (decide (b ≤ a ∧ a ≤ c)) := by
  unfold spec_l1In.f; by_cases h : b ≤ a <;> simp [h]
theorem in_impl (a b c : Int) : impl_within.f a b c = some (decide (b ≤ a ∧ a ≤ c)) := by
  unfold impl_within.f; by_cases h : b ≤ a <;> simp [h]
theorem book_spec (a : Int) : spec_bpBook.f a = some (decide (1 ≤ a ∧ a ≤ 2000)) := by simp [spec_bpBook.f, in_spec]
theorem book_impl (a : Int) : impl_isBook.f a = some (decide (1 ≤ a ∧ a ≤ 2000)) := by simp [impl_isBook.f, in_impl]
theorem part_step {x num den : Int} (h0 : 1 ≤ x) (h1 : x ≤ 2000) (h2 : 1 ≤ num) (h3 : num < den) (h4 : den ≤ 200) :
    wrap64 (Int.tdiv (wrap64 ((wrap64 ((wrap64 (x * num)) + den)) - 1)) den) = (x * num + den - 1) / den ∧ 1 ≤ (x * num + den - 1) / den ∧ (x * num + den - 1) / den ≤ x := by
  have a1 : 1 * 1 ≤ x * num := Int.mul_le_mul h0 h2 (by omega) (by omega)
  have a2 : x * num ≤ x * (den - 1) := Int.mul_le_mul_of_nonneg_left (by omega) (by omega)
  have a3 : x * num ≤ 2000 * 200 := Int.mul_le_mul h1 (by omega) (by omega) (by omega)
  rw [Int.mul_sub, Int.mul_one] at a2
  have e : (x + 1) * den = x * den + den := by rw [Int.add_mul, Int.one_mul]
  have b1 : 1 ≤ (x * num + den - 1) / den := Int.le_ediv_of_mul_le (by omega) (by omega)
  have b2 : (x * num + den - 1) / den < x + 1 := Int.ediv_lt_of_lt_mul (by omega) (by rw [e]; omega)
  refine ⟨?_, b1, by omega⟩
  rw [w64 (x := x * num) (by omega) (by omega), w64 (x := x * num + den) (by omega) (by omega), w64 (x := x * num + den - 1) (by omega) (by omega), td (by omega), w64 (by omega) (by omega)]
theorem parts_loop {num den : Int} (h2 : 1 ≤ num) (h3 : num < den) (h4 : den ≤ 200) (d : Nat) : ∀ (x : Int) (l : List Int), 0 ≤ x → x ≤ d → x ≤ 2000 → l.length + x ≤ 2000 →
    ∃ out, ∀ k, d < k → spec_rdParts.l0 k x num den l = some out ∧ impl_PartPlan.l0 k num den l x = some (out, true) := by
  induction d with
  | zero =>
    intro x l h0 h1 _ _
    refine ⟨l, fun k hk => ?_⟩
    obtain ⟨k, rfl⟩ : ∃ m, k = m + 1 := ⟨k - 1, by omega⟩
    refine ⟨?_, ?_⟩
    · simp only [spec_rdParts.l0]; rw [if_neg (show ¬ x > 0 by omega)]
    · simp only [impl_PartPlan.l0]; rw [if_neg (show ¬ x > 0 by omega)]
  | succ d ih =>
    intro x l h0 h1 h5 h6
    by_cases c : x > 0
    · obtain ⟨e, b1, b2⟩ := part_step (x := x) (by omega) h5 h2 h3 h4
      obtain ⟨out, ho⟩ := ih (x - (x * num + den - 1) / den) (l ++ [(x * num + den - 1) / den]) (by omega) (by omega) (by omega) (by simp; omega)
      refine ⟨out, fun k hk => ?_⟩
      obtain ⟨k, rfl⟩ : ∃ m, k = m + 1 := ⟨k - 1, by omega⟩
      have hk := ho k (by omega)
      refine ⟨?_, ?_⟩
      · simp only [spec_rdParts.l0]
        rw [if_pos c, if_neg (show ¬ den = 0 by omega), if_pos (show l.length < 17592186044416 by omega), e, w64 (x := x - _) (by omega) (by omega)]
        exact hk.1
      · simp only [impl_PartPlan.l0]
        rw [if_pos c, if_neg (show ¬ den = 0 by omega), if_pos (show l.length < 17592186044416 by omega), e, w64 (x := x - _) (by omega) (by omega)]
        exact hk.2
    · refine ⟨l, fun k hk => ?_⟩
      obtain ⟨k, rfl⟩ : ∃ m, k = m + 1 := ⟨k - 1, by omega⟩
      simp only [spec_rdParts.l0, impl_PartPlan.l0]
      rw [if_neg c, if_neg c]
      exact ⟨rfl, rfl⟩

/-- YOURS: ∀ (a0 : Int) (a1 : Int) (a2 : Int), (Lit.int .i64 a0).wf = true → (Lit.int .i64 a1).wf = true → (Lit.int .i64 a2).wf = true → ∃ k, laws_FnExactDaysOfParts.f k a0 a1 a2 = some true
What it reaches (each with k first where it has rounds; `.mono`: more rounds tell the same; `.l0`, ..: its loops, with `.mono_l`): spec_l1In.f, spec_bpBook.f, spec_rdPart.f, spec_rdParts.f, spec_DaysOfParts.f, impl_within.f, impl_isBook.f, impl_isPart.f, impl_PartPlan.f, impl_DaysOfParts.f, laws_FnExactDaysOfParts.f -/
theorem FnExactDaysOfParts : laws_FnExactDaysOfParts.Pure := by
  intro a0 a1 a2 w0 w1 w2
  have hw1 := wf64 w1
  have hw2 := wf64 w2
  by_cases hb : 1 ≤ a0 ∧ a0 ≤ 2000
  · by_cases hp : 1 ≤ a1 ∧ a1 < a2 ∧ a2 ≤ 200
    · obtain ⟨out, ho⟩ := parts_loop hp.1 hp.2.1 hp.2.2 2000 a0 [] (by omega) (by omega) (by omega) (by simp; omega)
      refine ⟨2002, ?_⟩
      unfold laws_FnExactDaysOfParts.f spec_DaysOfParts.f impl_DaysOfParts.f impl_PartPlan.f spec_rdPart.f impl_isPart.f spec_rdParts.f
      simp only [book_spec, book_impl, in_spec, in_impl, impl_PartPlan.j0]
      rw [(ho 2002 (by omega)).1, (ho 2001 (by omega)).2, w64 (x := a1 + 1) (by omega) (by omega), w64 (x := a2 - 1) (by omega) (by omega)]
      have p1 : 2 ≤ a2 ∧ a2 ≤ 200 := by omega
      have p2 : 1 ≤ a1 ∧ a1 ≤ a2 - 1 := by omega
      have p3 : 1 ≤ a1 ∧ a1 ≤ 200 := by omega
      have p4 : a1 + 1 ≤ a2 ∧ a2 ≤ 200 := by omega
      simp only [decide_eq_true hb, decide_eq_true p1, decide_eq_true p2, decide_eq_true p3, decide_eq_true p4]
      simp
    · refine ⟨2, ?_⟩
      unfold laws_FnExactDaysOfParts.f spec_DaysOfParts.f impl_DaysOfParts.f impl_PartPlan.f spec_rdPart.f impl_isPart.f
      simp only [book_spec, book_impl, in_spec, in_impl, impl_PartPlan.j0]
      by_cases p1 : 2 ≤ a2 ∧ a2 ≤ 200
      · rw [w64 (x := a2 - 1) (by omega) (by omega)]
        have p2 : ¬ (1 ≤ a1 ∧ a1 ≤ a2 - 1) := by omega
        by_cases p3 : 1 ≤ a1 ∧ a1 ≤ 200
        · rw [w64 (x := a1 + 1) (by omega) (by omega)]
          have p4 : ¬ (a1 + 1 ≤ a2 ∧ a2 ≤ 200) := by omega
          simp only [decide_eq_true hb, decide_eq_true p1, decide_eq_false p2, decide_eq_true p3, decide_eq_false p4]
          simp
        · simp only [decide_eq_true hb, decide_eq_true p1, decide_eq_false p2, decide_eq_false p3]
          simp
      · by_cases p3 : 1 ≤ a1 ∧ a1 ≤ 200
        · rw [w64 (x := a1 + 1) (by omega) (by omega)]
          have p4 : ¬ (a1 + 1 ≤ a2 ∧ a2 ≤ 200) := by omega
          simp only [decide_eq_true hb, decide_eq_false p1, decide_eq_true p3, decide_eq_false p4]
          simp
        · simp only [decide_eq_true hb, decide_eq_false p1, decide_eq_false p3]
          simp
  · refine ⟨2, ?_⟩
    simp [laws_FnExactDaysOfParts.f, spec_DaysOfParts.f, impl_DaysOfParts.f, impl_PartPlan.f, impl_PartPlan.j0, book_spec, book_impl, hb]

end Go.Proofs.Ytcbhdepgamncaaa.Pure
