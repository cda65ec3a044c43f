/- The program's TornLeaf returns what the reference's TornLeaf returns: the plain statement, over numbers and lists, for all arguments; each number of its Go kind, each string and slice within the reader's bounds. -/
import Derived.Test.YtcbhdepgamncaaaPFnExactTornLeafx1
namespace Go.Proofs.Ytcbhdepgamncaaa.Pure
open Go.RowKit Go.Proofs.Ytcbhdepgamncaaa.PFnExactTornLeaf Go.Proofs.YtcbhdepgamncaaaW.PrintWords Go.Proofs.YtcbhdepgamncaaaW.PrintLast
set_option linter.unusedVariables false
set_option linter.unusedSimpArgs false

theorem w64 {x : Int} (h0 : -9223372036854775808 ≤ x) (h1 : x ≤ 9223372036854775807) : wrap64 x = x := by unfold wrap64; omega
theorem td {a b : Int} (h : 0 ≤ a) : Int.tdiv a b = a / b := Int.tdiv_eq_ediv_of_nonneg h
theorem tm {a b : Int} (h : 0 ≤ a) : Int.tmod a b = a % b := Int.tmod_eq_emod_of_nonneg h
theorem wf64 {n : Int} (h : (Lit.int .i64 n).wf = true) : -9223372036854775808 ≤ n ∧ n ≤ 9223372036854775807 := by
  simp [Lit.wf, IntKind.min, IntKind.max, IntKind.signed, IntKind.bits] at h
  omega
theorem in_spec (a b c : Int) : spec_l1In.f a b c = some (decide (b ≤ a ∧ a ≤ c)) := by
  unfold spec_l1In.f; by_cases h : b ≤ a <;> simp [h]
theorem in_impl (a b c : Int) : impl_within.f a b c = some (decide (b ≤ a ∧ a ≤ c)) := by
  unfold impl_within.f; by_cases h : b ≤ a <;> simp [h]
theorem book_spec (a : Int) : spec_bpBook.f a = some (decide (1 ≤ a ∧ a ≤ 2000)) := by simp [spec_bpBook.f, in_spec]
theorem book_impl (a : Int) : impl_isBook.f a = some (decide (1 ≤ a ∧ a ≤ 2000)) := by simp [impl_isBook.f, in_impl]
def sumV (a : Int) : Int := a * (a + 1) / 2
theorem mul_le {a b c d : Int} (h0 : 0 ≤ a) (h1 : a ≤ c) (h2 : 0 ≤ b) (h3 : b ≤ d) : 0 ≤ a * b ∧ a * b ≤ c * d :=
  ⟨Int.mul_nonneg h0 h2, Int.mul_le_mul h1 h3 h2 (Int.le_trans h0 h1)⟩
theorem sumV_bd {a : Int} (h0 : 1 ≤ a) (h1 : a ≤ 2000) : 1 ≤ sumV a ∧ sumV a ≤ 2001000 := by
  have h := mul_le (a := a) (b := a + 1) (c := 2000) (d := 2001) (by omega) h1 (by omega) (by omega)
  have h2 : 1 * 2 ≤ a * (a + 1) := Int.mul_le_mul h0 (by omega) (by omega) (by omega)
  unfold sumV
  omega
theorem sum_val {a : Int} (h0 : 1 ≤ a) (h1 : a ≤ 2000) : wrap64 (Int.tdiv (wrap64 (a * (wrap64 (a + 1)))) 2) = sumV a := by
  have h := mul_le (a := a) (b := a + 1) (c := 2000) (d := 2001) (by omega) h1 (by omega) (by omega)
  rw [w64 (x := a + 1) (by omega) (by omega), w64 (x := a * (a + 1)) (by omega) (by omega), td (by omega)]
  unfold sumV
  exact w64 (by omega) (by omega)
theorem sum_spec {a : Int} (h0 : 1 ≤ a) (h1 : a ≤ 2000) : spec_bpSum.f a = some (sumV a) := by unfold spec_bpSum.f; rw [sum_val h0 h1]
theorem sum_impl {a : Int} (h0 : 1 ≤ a) (h1 : a ≤ 2000) : impl_sumOf.f a = some (sumV a) := by unfold impl_sumOf.f; rw [sum_val h0 h1]
/-- The leaf whose numbers make r, of a book of p pages; 0: there is none. -/
def tornV (p r : Int) : Int := if 3 ≤ r ∧ (r + 1) % 4 = 0 ∧ (r + 1) / 4 ≤ p / 2 then (r + 1) / 4 else 0
theorem torn_spec {p r : Int} (h0 : 1 ≤ p) (h1 : p ≤ 2000) (_h2 : -9223372036854775808 ≤ r) (h3 : r ≤ 9223372036854775000) : spec_bpTorn.f p r = some (tornV p r) := by
  unfold spec_bpTorn.f tornV
  by_cases c : r < 3
  · rw [if_pos c, if_neg (by omega)]
  · rw [if_neg c, w64 (x := r + 1) (by omega) (by omega), tm (by omega), td (b := 4) (by omega), td (b := 2) (by omega), w64 (x := (r + 1) / 4) (by omega) (by omega), w64 (x := p / 2) (by omega) (by omega)]
    by_cases c2 : (r + 1) % 4 = 0
    · rw [if_pos c2]
      by_cases c3 : (r + 1) / 4 > p / 2
      · rw [if_pos c3, if_neg (by omega)]
      · rw [if_neg c3, if_pos (by omega)]
    · rw [if_neg c2, if_neg (by omega)]
theorem torn_impl {p s : Int} (h0 : 1 ≤ p) (h1 : p ≤ 2000) (h2 : 0 ≤ s) (h3 : s ≤ 9223372036854775807) : impl_tornLeaf.f p s = some (tornV p (sumV p - s)) := by
  have hb := sumV_bd h0 h1
  unfold impl_tornLeaf.f tornV
  rw [sum_impl h0 h1]
  simp only [Option.bind_some]
  generalize sumV p = S at hb ⊢
  rw [w64 (x := S - s) (by omega) (by omega)]
  by_cases c : S - s > 0
  · rw [if_pos c, w64 (x := S - s + 1) (by omega) (by omega), td (by omega), w64 (x := (S - s + 1) / 4) (by omega) (by omega), w64 (x := 4 * ((S - s + 1) / 4)) (by omega) (by omega), w64 (by omega) (by omega), w64 (by omega) (by omega)]
    by_cases c2 : 4 * ((S - s + 1) / 4) - 1 = S - s
    · rw [if_pos c2]
      by_cases c3 : 2 * ((S - s + 1) / 4) ≤ p
      · rw [if_pos c3, if_pos (by omega)]
      · rw [if_neg c3, if_neg (by omega)]
    · rw [if_neg c2, if_neg (by omega)]
  · rw [if_neg c, if_neg (by omega)]

/-- YOURS: ∀ (a0 : Int) (a1 : Int), (Lit.int .i64 a0).wf = true → (Lit.int .i64 a1).wf = true → laws_FnExactTornLeaf.f a0 a1 = some true
What it reaches (each with k first where it has rounds; `.mono`: more rounds tell the same; `.l0`, ..: its loops, with `.mono_l`): spec_bpSum.f, spec_l1In.f, spec_bpBook.f, spec_bpLeft.f, spec_bpTorn.f, spec_TornLeaf.f, impl_within.f, impl_isBook.f, impl_sumOf.f, impl_tornLeaf.f, impl_TornLeaf.f, laws_FnExactTornLeaf.f -/
theorem FnExactTornLeaf : laws_FnExactTornLeaf.Pure := by
  intro a0 a1 w0 w1
  have hw := wf64 w1
  unfold laws_FnExactTornLeaf.f spec_TornLeaf.f impl_TornLeaf.f spec_bpLeft.f
  rw [book_spec, book_impl, in_spec]
  by_cases hb : 1 ≤ a0 ∧ a0 ≤ 2000
  · have hS := sumV_bd hb.1 hb.2
    simp only [hb, and_self, decide_true, Option.bind_some, if_true, sum_spec hb.1 hb.2]
    by_cases h0 : a1 < 0
    · have : ¬ (0 ≤ a1 ∧ a1 ≤ 4000000) := by omega
      simp [h0, this]
    · rw [if_neg h0, torn_impl hb.1 hb.2 (by omega) (by omega)]
      by_cases h1 : a1 ≤ 4000000
      · have : 0 ≤ a1 ∧ a1 ≤ 4000000 := by omega
        rw [w64 (x := sumV a0 - a1) (by omega) (by omega), torn_spec hb.1 hb.2 (by omega) (by omega)]
        simp [this]
      · have : ¬ (0 ≤ a1 ∧ a1 ≤ 4000000) := by omega
        have z : tornV a0 (sumV a0 - a1) = 0 := by unfold tornV; rw [if_neg (by omega)]
        simp [this, z]
  · simp [hb]

end Go.Proofs.Ytcbhdepgamncaaa.Pure
