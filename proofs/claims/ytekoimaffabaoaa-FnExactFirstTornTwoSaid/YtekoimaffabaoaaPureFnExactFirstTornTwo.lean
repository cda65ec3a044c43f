/- The program's FirstTornTwo returns what the reference's FirstTornTwo returns: the plain statement, over numbers and lists, for all arguments; each number of its Go kind, each string and slice within the reader's bounds. -/
import Derived.Test.YtekoimaffabaoaaPFnExactFirstTornTwox1
namespace Go.Proofs.Ytekoimaffabaoaa.Pure
open Go.RowKit Go.Proofs.Ytekoimaffabaoaa.PFnExactFirstTornTwo Go.Proofs.YtekoimaffabaoaaW.PrintWords Go.Proofs.YtekoimaffabaoaaW.PrintLast
set_option linter.unusedVariables false
set_option linter.unusedSimpArgs false

theorem w64 {x : Int} (h0 : -9223372036854775808 ≤ x) (h1 : x ≤ 9223372036854775807) : wrap64 x = x := by unfold wrap64; omega
theorem td {a b : Int} (h : 0 ≤ a) : Int.tdiv a b = a / b := Int.tdiv_eq_ediv_of_nonneg h
theorem tm {a b : Int} (h : 0 ≤ a) : Int.tmod a b = a % b := Int.tmod_eq_emod_of_nonneg h
theorem wf64 {n : Int} (h : (Lit.int .i64 n).wf = true) : -9223372036854775808 ≤ n ∧ n ≤ 9223372036854775807 := by
  simp [Lit.wf, IntKind.min, IntKind.max, IntKind.signed, IntKind.bits] at h
  omega
theorem in_spec (a b c : Int) : spec_l1In.f a b c = some (decide (b ≤ a ∧ a ≤ c)) := by
  unfold spec_l1In.f; by_cases h : b ≤ a <;> simp [h]
theorem in_impl (a b c : Int) : impl_within.f a b c = some (decide (b ≤ a ∧ a ≤ c)) := by
  unfold impl_within.f; by_cases h : b ≤ a <;> simp [h]
theorem book_spec (a : Int) : spec_bpBook.f a = some (decide (1 ≤ a ∧ a ≤ 2000)) := by simp [spec_bpBook.f, in_spec]
theorem book_impl (a : Int) : impl_isBook.f a = some (decide (1 ≤ a ∧ a ≤ 2000)) := by simp [impl_isBook.f, in_impl]
def sumV (a : Int) : Int := a * (a + 1) / 2
theorem mul_le {a b c d : Int} (h0 : 0 ≤ a) (h1 : a ≤ c) (h2 : 0 ≤ b) (h3 : b ≤ d) : 0 ≤ a * b ∧ a * b ≤ c * d :=
  ⟨Int.mul_nonneg h0 h2, Int.mul_le_mul h1 h3 h2 (Int.le_trans h0 h1)⟩
theorem sumV_bd {a : Int} (h0 : 1 ≤ a) (h1 : a ≤ 2000) : 1 ≤ sumV a ∧ sumV a ≤ 2001000 := by
  have h := mul_le (a := a) (b := a + 1) (c := 2000) (d := 2001) (by omega) h1 (by omega) (by omega)
  have h2 : 1 * 2 ≤ a * (a + 1) := Int.mul_le_mul h0 (by omega) (by omega) (by omega)
  unfold sumV
  omega
theorem sum_val {a : Int} (h0 : 1 ≤ a) (h1 : a ≤ 2000) : wrap64 (Int.tdiv (wrap64 (a * (wrap64 (a + 1)))) 2) = sumV a := by
  have h := mul_le (a := a) (b := a + 1) (c := 2000) (d := 2001) (by omega) h1 (by omega) (by omega)
  rw [w64 (x := a + 1) (by omega) (by omega), w64 (x := a * (a + 1)) (by omega) (by omega), td (by omega)]
  unfold sumV
  exact w64 (by omega) (by omega)
theorem sum_spec {a : Int} (h0 : 1 ≤ a) (h1 : a ≤ 2000) : spec_bpSum.f a = some (sumV a) := by unfold spec_bpSum.f; rw [sum_val h0 h1]
theorem sum_impl {a : Int} (h0 : 1 ≤ a) (h1 : a ≤ 2000) : impl_sumOf.f a = some (sumV a) := by unfold impl_sumOf.f; rw [sum_val h0 h1]
/-- The leaf whose numbers make r, of a book of p pages; 0: there is none. -/
def tornV (p r : Int) : Int := if 3 ≤ r ∧ (r + 1) % 4 = 0 ∧ (r + 1) / 4 ≤ p / 2 then (r + 1) / 4 else 0
theorem torn_spec {p r : Int} (h0 : 1 ≤ p) (h1 : p ≤ 2000) (_h2 : -9223372036854775808 ≤ r) (h3 : r ≤ 9223372036854775000) : spec_bpTorn.f p r = some (tornV p r) := by
  unfold spec_bpTorn.f tornV
  by_cases c : r < 3
  · rw [if_pos c, if_neg (by omega)]
  · rw [if_neg c, w64 (x := r + 1) (by omega) (by omega), tm (by omega), td (b := 4) (by omega), td (b := 2) (by omega), w64 (x := (r + 1) / 4) (by omega) (by omega), w64 (x := p / 2) (by omega) (by omega)]
    by_cases c2 : (r + 1) % 4 = 0
    · rw [if_pos c2]
      by_cases c3 : (r + 1) / 4 > p / 2
      · rw [if_pos c3, if_neg (by omega)]
      · rw [if_neg c3, if_pos (by omega)]
    · rw [if_neg c2, if_neg (by omega)]
/-- What the reference holds at the leaf x: the first pair, and how many there were; a leaf is the first of a pair just from lo to hi. -/
def twoS (lo hi B x : Int) : Int × Int × Int := if x ≤ lo ∨ hi < lo then (0, 0, 0) else (lo, B - lo, (if x - 1 ≤ hi then x - 1 else hi) - lo + 1)
theorem two_spec_loop {p r lo hi B : Int} (h0 : 1 ≤ p) (h1 : p ≤ 2000) (hr0 : -5000000 ≤ r) (hr1 : r ≤ 5000000) (hlo : 1 ≤ lo)
    (H : ∀ x, 1 ≤ x → x ≤ p / 2 → (lo ≤ x ∧ x ≤ hi → tornV p (r - (4 * x - 1)) = B - x ∧ B - x > x) ∧ (¬ (lo ≤ x ∧ x ≤ hi) → tornV p (r - (4 * x - 1)) ≤ x)) (d : Nat) :
    ∀ x, 1 ≤ x → x + d = p / 2 + 1 → ∀ k, d < k →
      spec_bpTwo.l0 k p r (twoS lo hi B x).1 (twoS lo hi B x).2.1 (twoS lo hi B x).2.2 x = some (twoS lo hi B (p / 2 + 1)) := by
  induction d with
  | zero =>
    intro x h2 h3 k hk
    obtain ⟨k, rfl⟩ : ∃ m, k = m + 1 := ⟨k - 1, by omega⟩
    rw [spec_bpTwo.l0, td (a := p) (by omega), w64 (x := p / 2) (by omega) (by omega), if_neg (by omega)]
    have : x = p / 2 + 1 := by omega
    rw [this]
  | succ d ih =>
    intro x h2 h3 k hk
    obtain ⟨k, rfl⟩ : ∃ m, k = m + 1 := ⟨k - 1, by omega⟩
    have g := ih (x + 1) (by omega) (by omega) k (by omega)
    rw [spec_bpTwo.l0, td (a := p) (by omega), w64 (x := p / 2) (by omega) (by omega), if_pos (by omega), w64 (x := 4 * x) (by omega) (by omega), w64 (x := 4 * x - 1) (by omega) (by omega),
      w64 (x := r - (4 * x - 1)) (by omega) (by omega), torn_spec h0 h1 (by omega) (by omega)]
    simp only [Option.bind_some]
    rw [w64 (x := x + 1) (by omega) (by omega)]
    obtain ⟨H1, H2⟩ := H x h2 (by omega)
    by_cases c : lo ≤ x ∧ x ≤ hi
    · obtain ⟨H3, H4⟩ := H1 c
      rw [H3, if_neg (by omega)]
      have e1 : twoS lo hi B (x + 1) = (lo, B - lo, x - lo + 1) := by
        unfold twoS
        rw [if_neg (by omega), if_pos (by omega)]
        congr 2; omega
      rw [e1] at g
      by_cases z : x = lo
      · have e0 : twoS lo hi B x = (0, 0, 0) := by unfold twoS; rw [if_pos (by omega)]
        rw [e0, if_pos rfl, w64 (by decide) (by decide), z]
        rw [z] at g
        have : lo - lo + 1 = (0 : Int) + 1 := by omega
        simp only at g ⊢
        rw [this] at g
        exact g
      · have e0 : twoS lo hi B x = (lo, B - lo, x - 1 - lo + 1) := by
          unfold twoS
          rw [if_neg (by omega), if_pos (by omega)]
        rw [e0]
        simp only at g ⊢
        rw [if_neg (by omega), w64 (x := x - 1 - lo + 1 + 1) (by omega) (by omega)]
        have : x - 1 - lo + 1 + 1 = x - lo + 1 := by omega
        rw [this]
        exact g
    · have H3 := H2 c
      rw [if_pos H3]
      have e : twoS lo hi B (x + 1) = twoS lo hi B x := by
        unfold twoS
        by_cases z : x ≤ lo ∨ hi < lo
        · rw [if_pos z, if_pos (by omega)]
        · rw [if_neg z, if_neg (by omega), if_neg (by omega)]
          by_cases y : x - 1 ≤ hi
          · rw [if_pos y]
            have : x - 1 = hi := by omega
            rw [this]
          · rw [if_neg y]
      rw [e] at g
      exact g
/-- What the program holds at the leaf x: how many, and the first one. -/
theorem two_impl_loop {p B lo hi : Int} (h0 : 1 ≤ p) (h1 : p ≤ 2000) (hB0 : 1 ≤ B) (hB1 : B ≤ 1000000) (hlo : lo = if B - p / 2 ≤ 1 then 1 else B - p / 2) (hhi : hi = (B - 1) / 2) (d : Nat) :
    ∀ x, 1 ≤ x → x + d = hi + 1 → ∀ k, d < k →
      impl_tornTwo.l0 k p B (twoS lo hi B x).2.2 (twoS lo hi B x).1 x = some ((twoS lo hi B (hi + 1)).2.2, (twoS lo hi B (hi + 1)).1, B - (twoS lo hi B (hi + 1)).1) := by
  induction d with
  | zero =>
    intro x h2 h3 k hk
    obtain ⟨k, rfl⟩ : ∃ m, k = m + 1 := ⟨k - 1, by omega⟩
    rw [impl_tornTwo.l0, w64 (x := B - x) (by omega) (by omega), if_neg (by omega)]
    have e : x = hi + 1 := by omega
    rw [e]
    have hb : 0 ≤ (twoS lo hi B (hi + 1)).1 ∧ (twoS lo hi B (hi + 1)).1 ≤ 2000000 := by
      unfold twoS
      by_cases z : hi + 1 ≤ lo ∨ hi < lo
      · rw [if_pos z]; exact ⟨by decide, by decide⟩
      · rw [if_neg z]
        show 0 ≤ lo ∧ lo ≤ 2000000
        omega
    rw [w64 (x := B - _) (by omega) (by omega)]
  | succ d ih =>
    intro x h2 h3 k hk
    obtain ⟨k, rfl⟩ : ∃ m, k = m + 1 := ⟨k - 1, by omega⟩
    have g := ih (x + 1) (by omega) (by omega) k (by omega)
    rw [impl_tornTwo.l0, w64 (x := B - x) (by omega) (by omega), if_pos (by omega), w64 (x := 2 * (B - x)) (by omega) (by omega), w64 (x := x + 1) (by omega) (by omega)]
    by_cases c : lo ≤ x
    · rw [if_pos (show 2 * (B - x) ≤ p by split at hlo <;> omega)]
      have e1 : twoS lo hi B (x + 1) = (lo, B - lo, x - lo + 1) := by
        unfold twoS
        rw [if_neg (by omega), if_pos (by omega)]
        congr 2; omega
      rw [e1] at g
      by_cases z : x = lo
      · have e0 : twoS lo hi B x = (0, 0, 0) := by unfold twoS; rw [if_pos (by omega)]
        rw [e0, if_pos rfl, w64 (by decide) (by decide), z]
        rw [z] at g
        have : lo - lo + 1 = (0 : Int) + 1 := by omega
        simp only at g ⊢
        rw [this] at g
        exact g
      · have e0 : twoS lo hi B x = (lo, B - lo, x - 1 - lo + 1) := by
          unfold twoS
          rw [if_neg (by omega), if_pos (by omega)]
        rw [e0]
        simp only at g ⊢
        rw [if_neg (by omega), w64 (x := x - 1 - lo + 1 + 1) (by omega) (by omega)]
        have : x - 1 - lo + 1 + 1 = x - lo + 1 := by omega
        rw [this]
        exact g
    · rw [if_neg (show ¬ 2 * (B - x) ≤ p by split at hlo <;> omega)]
      have e : twoS lo hi B (x + 1) = twoS lo hi B x := by
        unfold twoS
        rw [if_pos (by omega), if_pos (by omega)]
      rw [e] at g
      exact g
/-- The first pair of leaves that make r, and how many pairs there are. -/
def loV (p B : Int) : Int := if B - p / 2 ≤ 1 then 1 else B - p / 2
def twoV (p r : Int) : Int × Int × Int :=
  if 0 < r ∧ (r + 2) % 4 = 0 ∧ loV p ((r + 2) / 4) ≤ ((r + 2) / 4 - 1) / 2 then
    (loV p ((r + 2) / 4), (r + 2) / 4 - loV p ((r + 2) / 4), ((r + 2) / 4 - 1) / 2 - loV p ((r + 2) / 4) + 1) else (0, 0, 0)
theorem two_spec {p s : Int} (h0 : 1 ≤ p) (h1 : p ≤ 2000) (hs0 : 0 ≤ s) (hs1 : s ≤ 4000000) (k : Nat) (hk : 1001 ≤ k) : spec_bpTwo.f k p s = some (twoV p (sumV p - s)) := by
  have hb := sumV_bd h0 h1
  unfold spec_bpTwo.f
  rw [sum_spec h0 h1]
  simp only [Option.bind_some]
  rw [w64 (x := sumV p - s) (by omega) (by omega)]
  generalize hr : sumV p - s = r
  by_cases c : 0 < r ∧ (r + 2) % 4 = 0
  · have hlo : loV p ((r + 2) / 4) = if (r + 2) / 4 - p / 2 ≤ 1 then 1 else (r + 2) / 4 - p / 2 := rfl
    have hlo1 : 1 ≤ loV p ((r + 2) / 4) := by rw [hlo]; split <;> omega
    have g := two_spec_loop (p := p) (r := r) (lo := loV p ((r + 2) / 4)) (hi := ((r + 2) / 4 - 1) / 2) (B := (r + 2) / 4) h0 h1 (by omega) (by omega) hlo1 (by
      intro x h2 h3
      have ht : tornV p (r - (4 * x - 1)) = if 3 ≤ r - (4 * x - 1) ∧ (r - (4 * x - 1) + 1) % 4 = 0 ∧ (r - (4 * x - 1) + 1) / 4 ≤ p / 2 then (r - (4 * x - 1) + 1) / 4 else 0 := rfl
      refine ⟨fun h => ?_, fun h => ?_⟩
      · rw [ht, if_pos (by split at hlo <;> omega)]
        omega
      · rw [ht]
        split
        · split at hlo <;> omega
        · omega) (p / 2).toNat 1 (by omega) (by omega) k (by omega)
    have e0 : twoS (loV p ((r + 2) / 4)) (((r + 2) / 4 - 1) / 2) ((r + 2) / 4) 1 = (0, 0, 0) := by unfold twoS; rw [if_pos (by omega)]
    rw [e0] at g
    rw [g]
    congr 1
    unfold twoS twoV
    by_cases z : loV p ((r + 2) / 4) ≤ ((r + 2) / 4 - 1) / 2
    · rw [if_neg (by split at hlo <;> omega), if_pos (show 0 < r ∧ (r + 2) % 4 = 0 ∧ loV p ((r + 2) / 4) ≤ ((r + 2) / 4 - 1) / 2 from ⟨c.1, c.2, z⟩)]
      congr 3
      split
      · split at hlo <;> omega
      · omega
    · rw [if_pos (by omega), if_neg (fun h => z h.2.2)]
  · have g := two_spec_loop (p := p) (r := r) (lo := 1) (hi := 0) (B := 0) h0 h1 (by omega) (by omega) (by omega) (by
      intro x h2 h3
      refine ⟨fun h => by omega, fun _ => ?_⟩
      unfold tornV
      rw [if_neg (by omega)]
      omega) (p / 2).toNat 1 (by omega) (by omega) k (by omega)
    have e0 : ∀ y, twoS 1 0 0 y = (0, 0, 0) := fun y => by unfold twoS; rw [if_pos (by omega)]
    rw [e0, e0] at g
    rw [g]
    congr 1
    unfold twoV
    rw [if_neg (fun h => c ⟨h.1, h.2.1⟩)]
theorem two_impl {p s : Int} (h0 : 1 ≤ p) (h1 : p ≤ 2000) (hs0 : 0 ≤ s) (hs1 : s ≤ 4000000) : ∃ b, ∀ k, 600000 ≤ k → impl_tornTwo.f k p s = some ((twoV p (sumV p - s)).2.2, (twoV p (sumV p - s)).1, b) ∧ ((twoV p (sumV p - s)).2.2 ≠ 0 → b = (twoV p (sumV p - s)).2.1) := by
  have hb := sumV_bd h0 h1
  generalize hr : sumV p - s = r
  have hf : ∀ k, impl_tornTwo.f k p s = if 0 ≤ r then impl_tornTwo.j0 k p ((r + 2) / 4) (decide (¬ (r + 2) % 4 = 0)) else impl_tornTwo.j0 k p (wrap64 (Int.tdiv (wrap64 (r + 2)) 4)) true := by
    intro k
    unfold impl_tornTwo.f
    rw [sum_impl h0 h1]
    simp only [Option.bind_some]
    rw [w64 (x := sumV p - s) (by omega) (by omega), hr]
    by_cases c : s > sumV p
    · rw [if_pos c, if_neg (by omega)]
    · rw [if_neg c, if_pos (by omega), w64 (x := r + 2) (by omega) (by omega), td (by omega), w64 (x := (r + 2) / 4) (by omega) (by omega), w64 (x := 4 * ((r + 2) / 4)) (by omega) (by omega), w64 (x := 4 * ((r + 2) / 4) - 2) (by omega) (by omega)]
      congr 1
      rw [Bool.eq_iff_iff]
      simp only [bne_iff_ne, decide_eq_true_eq]
      omega
  by_cases c : 0 < r ∧ (r + 2) % 4 = 0
  · have hlo : loV p ((r + 2) / 4) = if (r + 2) / 4 - p / 2 ≤ 1 then 1 else (r + 2) / 4 - p / 2 := rfl
    have hlo1 : 1 ≤ loV p ((r + 2) / 4) := by rw [hlo]; split <;> omega
    have e0 : twoS (loV p ((r + 2) / 4)) (((r + 2) / 4 - 1) / 2) ((r + 2) / 4) 1 = (0, 0, 0) := by unfold twoS; rw [if_pos (by omega)]
    have ee : (twoS (loV p ((r + 2) / 4)) (((r + 2) / 4 - 1) / 2) ((r + 2) / 4) (((r + 2) / 4 - 1) / 2 + 1)) = twoV p r := by
      unfold twoS twoV
      by_cases z : loV p ((r + 2) / 4) ≤ ((r + 2) / 4 - 1) / 2
      · rw [if_neg (by omega), if_pos (show 0 < r ∧ (r + 2) % 4 = 0 ∧ loV p ((r + 2) / 4) ≤ ((r + 2) / 4 - 1) / 2 from ⟨c.1, c.2, z⟩), if_pos (by omega)]
        congr 3; omega
      · rw [if_pos (by omega), if_neg (fun h => z h.2.2)]
    refine ⟨(r + 2) / 4 - (twoV p r).1, fun k hk => ⟨?_, fun hz => ?_⟩⟩
    · obtain ⟨k, rfl⟩ : ∃ m, k = m + 1 := ⟨k - 1, by omega⟩
      have g := two_impl_loop h0 h1 (B := (r + 2) / 4) (by omega) (by omega) hlo rfl (((r + 2) / 4 - 1) / 2).toNat 1 (by omega) (by omega) k (by omega)
      rw [e0, ee] at g
      rw [hf, if_pos (by omega), decide_eq_false (by omega), impl_tornTwo.j0, if_neg (by decide)]
      exact g
    · unfold twoV at hz ⊢
      by_cases z : 0 < r ∧ (r + 2) % 4 = 0 ∧ loV p ((r + 2) / 4) ≤ ((r + 2) / 4 - 1) / 2
      · rw [if_pos z]
      · rw [if_neg z] at hz
        exact absurd rfl hz
  · have e : twoV p r = (0, 0, 0) := by unfold twoV; rw [if_neg (fun h => c ⟨h.1, h.2.1⟩)]
    refine ⟨0, fun k hk => ⟨?_, fun hz => by rw [e] at hz; exact absurd rfl hz⟩⟩
    obtain ⟨k, rfl⟩ : ∃ m, k = m + 1 := ⟨k - 1, by omega⟩
    rw [e, hf]
    by_cases z : 0 ≤ r
    · rw [if_pos z, decide_eq_true (show ¬ (r + 2) % 4 = 0 by omega), impl_tornTwo.j0, if_pos rfl]
    · rw [if_neg z, impl_tornTwo.j0, if_pos rfl]
theorem twoV_none {p r : Int} : (twoV p r).2.2 = 0 ∧ twoV p r = (0, 0, 0) ∨ 0 < (twoV p r).2.2 := by
  unfold twoV
  split
  · exact .inr (by show 0 < _ - _ + 1; omega)
  · exact .inl ⟨rfl, rfl⟩

/-- YOURS: ∀ (a0 : Int) (a1 : Int), (Lit.int .i64 a0).wf = true → (Lit.int .i64 a1).wf = true → ∃ k, laws_FnExactFirstTornTwo.f k a0 a1 = some true
What it reaches (each with k first where it has rounds; `.mono`: more rounds tell the same; `.l0`, ..: its loops, with `.mono_l`): spec_l1In.f, spec_bpBook.f, spec_bpLeft.f, spec_bpSum.f, spec_bpTorn.f, spec_bpTwo.f, spec_FirstTornTwo.f, impl_within.f, impl_isBook.f, impl_sumOf.f, impl_tornTwo.f, impl_FirstTornTwo.f, laws_FnExactFirstTornTwo.f -/
theorem FnExactFirstTornTwo : laws_FnExactFirstTornTwo.Pure := by
  intro a0 a1 _ _
  refine ⟨600001, ?_⟩
  unfold laws_FnExactFirstTornTwo.f spec_FirstTornTwo.f impl_FirstTornTwo.f
  unfold spec_bpLeft.f
  simp only [book_spec, book_impl, in_spec, in_impl]
  by_cases hb : 1 ≤ a0 ∧ a0 ≤ 2000
  · by_cases hc : 0 ≤ a1 ∧ a1 ≤ 4000000
    · obtain ⟨b, h2⟩ := two_impl hb.1 hb.2 hc.1 hc.2
      obtain ⟨g1, g2⟩ := h2 600000 (by omega)
      simp only [decide_eq_true hb, decide_eq_true hc, Option.bind_some, if_true, Bool.not_true]
      rw [two_spec hb.1 hb.2 hc.1 hc.2 600001 (by omega), impl_FirstTornTwo.j0, if_neg (by decide), g1]
      simp only [Option.bind_some]
      rcases twoV_none (p := a0) (r := sumV a0 - a1) with ⟨_, e⟩ | e
      · rw [e]; simp
      · rw [if_neg (by omega), g2 (by omega)]
        simp [e]
    · simp only [decide_eq_true hb, decide_eq_false hc, Option.bind_some, if_true, Bool.not_false]
      simp only [impl_FirstTornTwo.j0]
      simp
  · simp only [decide_eq_false hb, Option.bind_some]
    simp only [impl_FirstTornTwo.j0]
    simp

end Go.Proofs.Ytekoimaffabaoaa.Pure
