/- The program's CanBeTorn returns what the reference's CanBeTorn returns: the plain statement, over numbers and lists, for all arguments; each number of its Go kind, each string and slice within the reader's bounds. -/
import Derived.Test.YtcbhdepgamncaaaPFnExactCanBeTornx1
namespace Go.Proofs.Ytcbhdepgamncaaa.Pure
open Go.RowKit Go.Proofs.Ytcbhdepgamncaaa.PFnExactCanBeTorn Go.Proofs.YtcbhdepgamncaaaW.PrintWords Go.Proofs.YtcbhdepgamncaaaW.PrintLast
set_option linter.unusedVariables false
set_option linter.unusedSimpArgs false

theorem w64 {x : Int} (h0 : -9223372036854775808 ≤ x) (h1 : x ≤ 9223372036854775807) : wrap64 x = x := by unfold wrap64; omega
theorem td {a b : Int} (h : 0 ≤ a) : Int.tdiv a b = a / b := Int.tdiv_eq_ediv_of_nonneg h
theorem tm {a b : Int} (h : 0 ≤ a) : Int.tmod a b = a % b := Int.tmod_eq_emod_of_nonneg h
theorem wf64 {n : Int} (h : (Lit.int .i64 n).wf = true) : -9223372036854775808 ≤ n ∧ n ≤ 9223372036854775807 := by
  simp [Lit.wf, IntKind.min, IntKind.max, IntKind.signed, IntKind.bits] at h
  omega
theorem in_spec (a b c : Int) : spec_l1In.f a b c = some (decide (b ≤ a ∧ a ≤ c)) := by
  unfold spec_l1In.f; by_cases h : b ≤ a <;> simp [h]
theorem in_impl (a b c : Int) : impl_within.f a b c = some (decide (b ≤ a ∧ a ≤ c)) := by
  unfold impl_within.f; by_cases h : b ≤ a <;> simp [h]
/-- Can so many leaves have this sum? -/
def canV (s n : Int) : Bool := decide (if n = 1 then 3 ≤ s ∧ s ≤ 3999 ∧ (s + 1) % 4 = 0 else if n = 2 then 10 ≤ s ∧ s ≤ 7994 ∧ (s + 2) % 4 = 0 else 21 ≤ s ∧ s ≤ 11985 ∧ (s + 3) % 4 = 0)
theorem can_spec {s n : Int} (h0 : 0 ≤ s) (h1 : s ≤ 4000000) (h2 : 1 ≤ n) (h3 : n ≤ 3) (k : Nat) (hk : 5 ≤ k) : spec_CanBeTorn.f k s n = some (canV s n, true) := by
  obtain ⟨k, rfl⟩ : ∃ m, k = m + 1 := ⟨k - 1, by omega⟩
  have hs : 0 ≤ s ∧ s ≤ 4000000 := ⟨h0, h1⟩
  have hn : 1 ≤ n ∧ n ≤ 3 := ⟨h2, h3⟩
  simp only [spec_CanBeTorn.f, spec_CanBeTorn.j0, in_spec, hs, hn, and_self, decide_true, Option.bind_some, if_true, Bool.not_true]
  rw [if_neg (by decide), w64 (x := s + n) (by omega) (by omega), tm (by omega), td (a := s + n) (by omega), w64 (x := (s + n) / 4) (by omega) (by omega)]
  have h : n = 1 ∨ n = 2 ∨ n = 3 := by omega
  rcases h with rfl | rfl | rfl
  · rw [show wrap64 (Int.tdiv (wrap64 (1 * wrap64 (1 + 1))) 2) = 1 by decide +kernel, show wrap64 (wrap64 (1 * 1000) - wrap64 (Int.tdiv (wrap64 (1 * wrap64 (1 - 1))) 2)) = 1000 by decide +kernel]
    by_cases c : (s + 1) % 4 = 0
    · rw [if_pos c]; simp only [canV, if_true, Option.some.injEq, Prod.mk.injEq, and_true, decide_eq_decide]; omega
    · rw [if_neg c]; simp [canV, c]
  · rw [show wrap64 (Int.tdiv (wrap64 (2 * wrap64 (2 + 1))) 2) = 3 by decide +kernel, show wrap64 (wrap64 (2 * 1000) - wrap64 (Int.tdiv (wrap64 (2 * wrap64 (2 - 1))) 2)) = 1999 by decide +kernel]
    by_cases c : (s + 2) % 4 = 0
    · rw [if_pos c]; simp only [canV, if_neg (show ¬ (2 : Int) = 1 by decide), if_true, Option.some.injEq, Prod.mk.injEq, and_true, decide_eq_decide]; omega
    · rw [if_neg c]; simp [canV, c]
  · rw [show wrap64 (Int.tdiv (wrap64 (3 * wrap64 (3 + 1))) 2) = 6 by decide +kernel, show wrap64 (wrap64 (3 * 1000) - wrap64 (Int.tdiv (wrap64 (3 * wrap64 (3 - 1))) 2)) = 2997 by decide +kernel]
    by_cases c : (s + 3) % 4 = 0
    · rw [if_pos c]; simp only [canV, if_neg (show ¬ (3 : Int) = 1 by decide), if_neg (show ¬ (3 : Int) = 2 by decide), Option.some.injEq, Prod.mk.injEq, and_true, decide_eq_decide]; omega
    · rw [if_neg c]; simp [canV, c]
theorem can_end {s a b : Int} (n : Int) (h0 : 0 ≤ s) (h1 : s ≤ 4000000) (ha : a = 3 ∧ b = 3999 ∧ n = 1 ∨ a = 10 ∧ b = 7994 ∧ n = 2 ∨ a = 21 ∧ b = 11985 ∧ n = 3) :
    ((some (decide (a ≤ s ∧ s ≤ b))).bind fun t106 => (if t106 = true then (some (((Int.tmod (wrap64 (s - a)) 4) == 0), true)) else (some (false, true)))) = some (canV s n, true) := by
  simp only [Option.bind_some]
  by_cases c : a ≤ s ∧ s ≤ b
  · rw [w64 (x := s - a) (by omega) (by omega), tm (by omega)]
    simp only [c, and_self, decide_true, if_true, Option.some.injEq, Prod.mk.injEq, and_true]
    unfold canV
    rcases ha with ⟨rfl, rfl, rfl⟩ | ⟨rfl, rfl, rfl⟩ | ⟨rfl, rfl, rfl⟩
    · rw [Bool.eq_iff_iff]; simp; omega
    · rw [Bool.eq_iff_iff]; simp; omega
    · rw [Bool.eq_iff_iff]; simp; omega
  · simp only [c, decide_false, Option.some.injEq, Prod.mk.injEq, and_true]
    rw [if_neg (by decide)]
    simp only [Option.some.injEq, Prod.mk.injEq, and_true]
    unfold canV
    rcases ha with ⟨rfl, rfl, rfl⟩ | ⟨rfl, rfl, rfl⟩ | ⟨rfl, rfl, rfl⟩
    · rw [Bool.eq_iff_iff]; simp; omega
    · rw [Bool.eq_iff_iff]; simp; omega
    · rw [Bool.eq_iff_iff]; simp; omega
theorem can_impl {s n : Int} (h0 : 0 ≤ s) (h1 : s ≤ 4000000) (h2 : 1 ≤ n) (h3 : n ≤ 3) (k : Nat) (hk : 5 ≤ k) : impl_CanBeTorn.f k s n = some (canV s n, true) := by
  obtain ⟨k, rfl⟩ : ∃ m, k = m + 5 := ⟨k - 5, by omega⟩
  have hs : 0 ≤ s ∧ s ≤ 4000000 := ⟨h0, h1⟩
  have hn : 1 ≤ n ∧ n ≤ 3 := ⟨h2, h3⟩
  simp only [impl_CanBeTorn.f, impl_CanBeTorn.j0, in_impl, hs, hn, and_self, decide_true, Option.bind_some, if_true, Bool.not_true]
  rw [if_neg (by decide)]
  have h : n = 1 ∨ n = 2 ∨ n = 3 := by omega
  rcases h with rfl | rfl | rfl
  · rw [← can_end (a := 3) (b := 3999) 1 h0 h1 (by omega)]
    simp only [impl_CanBeTorn.l0, in_impl, w64, Int.reduceAdd, Int.reduceMul, Int.reduceSub, Int.reduceLT, Int.reduceLE, Int.reduceNeg, ↓reduceIte]
  · rw [← can_end (a := 10) (b := 7994) 2 h0 h1 (by omega)]
    simp only [impl_CanBeTorn.l0, in_impl, w64, Int.reduceAdd, Int.reduceMul, Int.reduceSub, Int.reduceLT, Int.reduceLE, Int.reduceNeg, ↓reduceIte]
  · rw [← can_end (a := 21) (b := 11985) 3 h0 h1 (by omega)]
    simp only [impl_CanBeTorn.l0, in_impl, w64, Int.reduceAdd, Int.reduceMul, Int.reduceSub, Int.reduceLT, Int.reduceLE, Int.reduceNeg, ↓reduceIte]

/-- YOURS: ∀ (a0 : Int) (a1 : Int), (Lit.int .i64 a0).wf = true → (Lit.int .i64 a1).wf = true → ∃ k, laws_FnExactCanBeTorn.f k a0 a1 = some true
What it reaches (each with k first where it has rounds; `.mono`: more rounds tell the same; `.l0`, ..: its loops, with `.mono_l`): spec_l1In.f, spec_CanBeTorn.f, impl_within.f, impl_CanBeTorn.f, laws_FnExactCanBeTorn.f -/
theorem FnExactCanBeTorn : laws_FnExactCanBeTorn.Pure := by
  intro a0 a1 _ _
  by_cases h : (0 ≤ a0 ∧ a0 ≤ 4000000) ∧ 1 ≤ a1 ∧ a1 ≤ 3
  · refine ⟨10, ?_⟩
    unfold laws_FnExactCanBeTorn.f
    rw [can_spec h.1.1 h.1.2 h.2.1 h.2.2 10 (by omega), can_impl h.1.1 h.1.2 h.2.1 h.2.2 10 (by omega)]
    simp
  · refine ⟨10, ?_⟩
    unfold laws_FnExactCanBeTorn.f spec_CanBeTorn.f impl_CanBeTorn.f
    simp only [spec_CanBeTorn.j0, impl_CanBeTorn.j0, in_spec, in_impl]
    by_cases h0 : 0 ≤ a0 ∧ a0 ≤ 4000000
    · have h1 : ¬ (1 ≤ a1 ∧ a1 ≤ 3) := by omega
      simp [h0, h1]
    · simp [h0]

end Go.Proofs.Ytcbhdepgamncaaa.Pure
