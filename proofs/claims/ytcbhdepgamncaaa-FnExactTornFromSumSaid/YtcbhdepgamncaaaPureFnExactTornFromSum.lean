/- The program's TornFromSum returns what the reference's TornFromSum returns: the plain statement, over numbers and lists, for all arguments; each number of its Go kind, each string and slice within the reader's bounds. -/
import Derived.Test.YtcbhdepgamncaaaPFnExactTornFromSumx1
namespace Go.Proofs.Ytcbhdepgamncaaa.Pure
open Go.RowKit Go.Proofs.Ytcbhdepgamncaaa.PFnExactTornFromSum Go.Proofs.YtcbhdepgamncaaaW.PrintWords Go.Proofs.YtcbhdepgamncaaaW.PrintLast
set_option linter.unusedVariables false
set_option linter.unusedSimpArgs false

theorem w64 {x : Int} (h0 : -9223372036854775808 ≤ x) (h1 : x ≤ 9223372036854775807) : wrap64 x = x := by unfold wrap64; omega
theorem td {a b : Int} (h : 0 ≤ a) : Int.tdiv a b = a / b := Int.tdiv_eq_ediv_of_nonneg h
theorem tm {a b : Int} (h : 0 ≤ a) : Int.tmod a b = a % b := Int.tmod_eq_emod_of_nonneg h
theorem wf64 {n : Int} (h : (Lit.int .i64 n).wf = true) : -9223372036854775808 ≤ n ∧ n ≤ 9223372036854775807 := by
  simp [Lit.wf, IntKind.min, IntKind.max, IntKind.signed, IntKind.bits] at h
  omega
theorem in_spec (a b c : Int) : spec_l1In.f a b c = some (decide (b ≤ a ∧ a ≤ c)) := by
  unfold spec_l1In.f; by_cases h : b ≤ a <;> simp [h]
theorem in_impl (a b c : Int) : impl_within.f a b c = some (decide (b ≤ a ∧ a ≤ c)) := by
  unfold impl_within.f; by_cases h : b ≤ a <;> simp [h]
def sumV (a : Int) : Int := a * (a + 1) / 2
theorem mul_le {a b c d : Int} (h0 : 0 ≤ a) (h1 : a ≤ c) (h2 : 0 ≤ b) (h3 : b ≤ d) : 0 ≤ a * b ∧ a * b ≤ c * d :=
  ⟨Int.mul_nonneg h0 h2, Int.mul_le_mul h1 h3 h2 (Int.le_trans h0 h1)⟩
theorem sumV_bd {a : Int} (h0 : 1 ≤ a) (h1 : a ≤ 2000) : 1 ≤ sumV a ∧ sumV a ≤ 2001000 := by
  have h := mul_le (a := a) (b := a + 1) (c := 2000) (d := 2001) (by omega) h1 (by omega) (by omega)
  have h2 : 1 * 2 ≤ a * (a + 1) := Int.mul_le_mul h0 (by omega) (by omega) (by omega)
  unfold sumV
  omega
theorem sum_val {a : Int} (h0 : 1 ≤ a) (h1 : a ≤ 2000) : wrap64 (Int.tdiv (wrap64 (a * (wrap64 (a + 1)))) 2) = sumV a := by
  have h := mul_le (a := a) (b := a + 1) (c := 2000) (d := 2001) (by omega) h1 (by omega) (by omega)
  rw [w64 (x := a + 1) (by omega) (by omega), w64 (x := a * (a + 1)) (by omega) (by omega), td (by omega)]
  unfold sumV
  exact w64 (by omega) (by omega)
theorem sum_spec {a : Int} (h0 : 1 ≤ a) (h1 : a ≤ 2000) : spec_bpSum.f a = some (sumV a) := by unfold spec_bpSum.f; rw [sum_val h0 h1]
theorem sum_impl {a : Int} (h0 : 1 ≤ a) (h1 : a ≤ 2000) : impl_sumOf.f a = some (sumV a) := by unfold impl_sumOf.f; rw [sum_val h0 h1]
/-- The leaf whose numbers make r, of a book of p pages; 0: there is none. -/
def tornV (p r : Int) : Int := if 3 ≤ r ∧ (r + 1) % 4 = 0 ∧ (r + 1) / 4 ≤ p / 2 then (r + 1) / 4 else 0
theorem torn_spec {p r : Int} (h0 : 1 ≤ p) (h1 : p ≤ 2000) (_h2 : -9223372036854775808 ≤ r) (h3 : r ≤ 9223372036854775000) : spec_bpTorn.f p r = some (tornV p r) := by
  unfold spec_bpTorn.f tornV
  by_cases c : r < 3
  · rw [if_pos c, if_neg (by omega)]
  · rw [if_neg c, w64 (x := r + 1) (by omega) (by omega), tm (by omega), td (b := 4) (by omega), td (b := 2) (by omega), w64 (x := (r + 1) / 4) (by omega) (by omega), w64 (x := p / 2) (by omega) (by omega)]
    by_cases c2 : (r + 1) % 4 = 0
    · rw [if_pos c2]
      by_cases c3 : (r + 1) / 4 > p / 2
      · rw [if_pos c3, if_neg (by omega)]
      · rw [if_neg c3, if_pos (by omega)]
    · rw [if_neg c2, if_neg (by omega)]
theorem torn_impl {p s : Int} (h0 : 1 ≤ p) (h1 : p ≤ 2000) (h2 : 0 ≤ s) (h3 : s ≤ 9223372036854775807) : impl_tornLeaf.f p s = some (tornV p (sumV p - s)) := by
  have hb := sumV_bd h0 h1
  unfold impl_tornLeaf.f tornV
  rw [sum_impl h0 h1]
  simp only [Option.bind_some]
  generalize sumV p = S at hb ⊢
  rw [w64 (x := S - s) (by omega) (by omega)]
  by_cases c : S - s > 0
  · rw [if_pos c, w64 (x := S - s + 1) (by omega) (by omega), td (by omega), w64 (x := (S - s + 1) / 4) (by omega) (by omega), w64 (x := 4 * ((S - s + 1) / 4)) (by omega) (by omega), w64 (by omega) (by omega), w64 (by omega) (by omega)]
    by_cases c2 : 4 * ((S - s + 1) / 4) - 1 = S - s
    · rw [if_pos c2]
      by_cases c3 : 2 * ((S - s + 1) / 4) ≤ p
      · rw [if_pos c3, if_pos (by omega)]
      · rw [if_neg c3, if_neg (by omega)]
    · rw [if_neg c2, if_neg (by omega)]
  · rw [if_neg c, if_neg (by omega)]
theorem tornV_nonneg (p r : Int) : 0 ≤ tornV p r := by unfold tornV; split <;> omega
/-- What a look through the books from x pages on tells, of a sum s. -/
def FromOk (s x : Int) (r : Int × Int × Bool) : Prop :=
  (r.2.2 = true → x ≤ r.1 ∧ r.1 ≤ 2000 ∧ r.2.1 = tornV r.1 (sumV r.1 - s) ∧ 0 < r.2.1 ∧ ∀ q, x ≤ q → q < r.1 → tornV q (sumV q - s) = 0) ∧
  (r.2.2 = false → r.1 = 0 ∧ r.2.1 = 0 ∧ ∀ q, x ≤ q → q ≤ 2000 → tornV q (sumV q - s) = 0)
theorem from_loop {s : Int} (hs0 : 0 ≤ s) (hs1 : s ≤ 4000000) (d : Nat) : ∀ x : Int, 1 ≤ x → x + d = 2001 →
    ∃ r : Int × Int × Bool, (∀ k, d < k → spec_TornFromSum.l0 k s x = some r ∧ impl_TornFromSum.l0 k s x = some r) ∧ FromOk s x r := by
  induction d with
  | zero =>
    intro x h1 hd
    refine ⟨(0, 0, false), fun k hk => ?_, ⟨(fun h => by cases h), fun _ => ⟨rfl, rfl, fun q _ _ => by omega⟩⟩⟩
    obtain ⟨k, rfl⟩ : ∃ m, k = m + 1 := ⟨k - 1, by omega⟩
    refine ⟨?_, ?_⟩
    · simp only [spec_TornFromSum.l0]; rw [if_neg (show ¬ x ≤ 2000 by omega)]
    · simp only [impl_TornFromSum.l0]; rw [if_neg (show ¬ x ≤ 2000 by omega)]
  | succ d ih =>
    intro x h1 hd
    have hb := sumV_bd h1 (show x ≤ 2000 by omega)
    by_cases c : tornV x (sumV x - s) > 0
    · refine ⟨(x, tornV x (sumV x - s), true), fun k hk => ?_, ⟨fun _ => ⟨by show x ≤ x; omega, by show x ≤ 2000; omega, rfl, c, fun q h0 h1 => by have h2 : q < x := h1; omega⟩, fun h => by cases h⟩⟩
      obtain ⟨k, rfl⟩ : ∃ m, k = m + 1 := ⟨k - 1, by omega⟩
      refine ⟨?_, ?_⟩
      · simp only [spec_TornFromSum.l0]
        rw [if_pos (show x ≤ 2000 by omega), sum_spec h1 (by omega)]
        simp only [Option.bind_some]
        rw [w64 (x := sumV x - s) (by omega) (by omega), torn_spec h1 (by omega) (by omega) (by omega)]
        simp only [Option.bind_some]
        rw [if_pos c]
      · simp only [impl_TornFromSum.l0]
        rw [if_pos (show x ≤ 2000 by omega), torn_impl h1 (by omega) hs0 (by omega)]
        simp only [Option.bind_some]
        rw [if_pos c]
    · have z : tornV x (sumV x - s) = 0 := by have := tornV_nonneg x (sumV x - s); omega
      obtain ⟨r, hr, hy, hn⟩ := ih (x + 1) (by omega) (by omega)
      have more : ∀ q, x ≤ q → (x + 1 ≤ q → tornV q (sumV q - s) = 0) → tornV q (sumV q - s) = 0 := by
        intro q h0 h
        by_cases e : q = x
        · rw [e]; exact z
        · exact h (by omega)
      refine ⟨r, fun k hk => ?_, ⟨fun h => ?_, fun h => ?_⟩⟩
      · obtain ⟨k, rfl⟩ : ∃ m, k = m + 1 := ⟨k - 1, by omega⟩
        have hk := hr k (by omega)
        refine ⟨?_, ?_⟩
        · simp only [spec_TornFromSum.l0]
          rw [if_pos (show x ≤ 2000 by omega), sum_spec h1 (by omega)]
          simp only [Option.bind_some]
          rw [w64 (x := sumV x - s) (by omega) (by omega), torn_spec h1 (by omega) (by omega) (by omega), w64 (x := x + 1) (by omega) (by omega)]
          simp only [Option.bind_some]
          rw [if_neg c]
          exact hk.1
        · simp only [impl_TornFromSum.l0]
          rw [if_pos (show x ≤ 2000 by omega), torn_impl h1 (by omega) hs0 (by omega), w64 (x := x + 1) (by omega) (by omega)]
          simp only [Option.bind_some]
          rw [if_neg c]
          exact hk.2
      · obtain ⟨a, b, c1, d1, e1⟩ := hy h
        exact ⟨by omega, b, c1, d1, fun q h0 h1 => more q h0 fun h2 => e1 q h2 h1⟩
      · obtain ⟨a, b, e1⟩ := hn h
        exact ⟨a, b, fun q h0 h1 => more q h0 fun h2 => e1 q h2 h1⟩
theorem from_both {s : Int} (hs0 : 1 ≤ s) (hs1 : s ≤ 4000000) : ∃ r : Int × Int × Bool, Ev (fun k => spec_TornFromSum.f k s) r ∧ Ev (fun k => impl_TornFromSum.f k s) r ∧ FromOk s 1 r := by
  obtain ⟨r, hr, hy⟩ := from_loop (s := s) (by omega) hs1 2000 1 (by omega) (by omega)
  have hi : 1 ≤ s ∧ s ≤ 4000000 := ⟨hs0, hs1⟩
  have z : tornV 1 (sumV 1 - s) = 0 := by unfold tornV; rw [if_neg (by rintro ⟨_, _, h⟩; have : (1:Int) / 2 = 0 := rfl; omega)]
  refine ⟨r, ⟨2001, fun k hk => ?_⟩, ⟨2001, fun k hk => ?_⟩, hy⟩
  · have h2 := (hr (k + 1) (by omega)).1
    simp only [spec_TornFromSum.l0] at h2
    rw [if_pos (by omega), sum_spec (by omega) (by omega)] at h2
    simp only [Option.bind_some] at h2
    have hb := sumV_bd (a := 1) (by omega) (by omega)
    rw [w64 (x := sumV 1 - s) (by omega) (by omega), torn_spec (by omega) (by omega) (by omega) (by omega), z] at h2
    simp only [Option.bind_some] at h2
    rw [if_neg (by omega), w64 (by omega) (by omega)] at h2
    simp only [spec_TornFromSum.f, in_spec, hi, and_self, decide_true, Option.bind_some, if_true]
    exact h2
  · simp only [impl_TornFromSum.f, in_impl, hi, and_self, decide_true, Option.bind_some, if_true]
    exact (hr k (by omega)).2

/-- YOURS: ∀ (a0 : Int), (Lit.int .i64 a0).wf = true → ∃ k, laws_FnExactTornFromSum.f k a0 = some true
What it reaches (each with k first where it has rounds; `.mono`: more rounds tell the same; `.l0`, ..: its loops, with `.mono_l`): spec_bpSum.f, spec_l1In.f, spec_bpTorn.f, spec_TornFromSum.f, impl_within.f, impl_sumOf.f, impl_tornLeaf.f, impl_TornFromSum.f, laws_FnExactTornFromSum.f -/
theorem FnExactTornFromSum : laws_FnExactTornFromSum.Pure := by
  intro a0 _
  by_cases h : 1 ≤ a0 ∧ a0 ≤ 4000000
  · obtain ⟨r, ⟨K1, h1⟩, ⟨K2, h2⟩, _⟩ := from_both h.1 h.2
    have g1 : spec_TornFromSum.f (max K1 K2) a0 = some r := h1 _ (by omega)
    have g2 : impl_TornFromSum.f (max K1 K2) a0 = some r := h2 _ (by omega)
    refine ⟨max K1 K2, ?_⟩
    unfold laws_FnExactTornFromSum.f
    rw [g1, g2]
    simp
  · refine ⟨0, ?_⟩
    simp [laws_FnExactTornFromSum.f, spec_TornFromSum.f, impl_TornFromSum.f, in_spec, in_impl, h]

end Go.Proofs.Ytcbhdepgamncaaa.Pure
