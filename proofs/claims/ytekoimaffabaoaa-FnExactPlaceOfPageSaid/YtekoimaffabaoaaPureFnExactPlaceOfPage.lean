/- The program's PlaceOfPage returns what the reference's PlaceOfPage returns: the plain statement, over numbers and lists, for all arguments; each number of its Go kind, each string and slice within the reader's bounds. -/
import Derived.Test.YtekoimaffabaoaaPFnExactPlaceOfPagex1
namespace Go.Proofs.Ytekoimaffabaoaa.Pure
open Go.RowKit Go.Proofs.Ytekoimaffabaoaa.PFnExactPlaceOfPage Go.Proofs.YtekoimaffabaoaaW.PrintWords Go.Proofs.YtekoimaffabaoaaW.PrintLast
set_option linter.unusedVariables false
set_option linter.unusedSimpArgs false

theorem w64 {x : Int} (h0 : -9223372036854775808 ≤ x) (h1 : x ≤ 9223372036854775807) : wrap64 x = x := by unfold wrap64; omega
theorem td {a b : Int} (h : 0 ≤ a) : Int.tdiv a b = a / b := Int.tdiv_eq_ediv_of_nonneg h
theorem tm {a b : Int} (h : 0 ≤ a) : Int.tmod a b = a % b := Int.tmod_eq_emod_of_nonneg h
theorem wf64 {n : Int} (h : (Lit.int .i64 n).wf = true) : -9223372036854775808 ≤ n ∧ n ≤ 9223372036854775807 := by
  simp [Lit.wf, IntKind.min, IntKind.max, IntKind.signed, IntKind.bits] at h
  omega
theorem in_spec (a b c : Int) : spec_l1In.f a b c = some (decide (b ≤ a ∧ a ≤ c)) := by
  unfold spec_l1In.f; by_cases h : b ≤ a <;> simp [h]
theorem in_impl (a b c : Int) : impl_within.f a b c = some (decide (b ≤ a ∧ a ≤ c)) := by
  unfold impl_within.f; by_cases h : b ≤ a <;> simp [h]
theorem sheets_spec (a : Int) : spec_foSheets.f a = some (decide (1 ≤ a ∧ a ≤ 100)) := by simp [spec_foSheets.f, in_spec]
theorem page_spec (n p : Int) : spec_foPage.f n p = some (decide ((1 ≤ n ∧ n ≤ 100) ∧ 1 ≤ p ∧ p ≤ 4 * n)) := by
  unfold spec_foPage.f
  rw [sheets_spec]
  by_cases h : 1 ≤ n ∧ n ≤ 100
  · rw [w64 (x := 4 * n) (by omega) (by omega), in_spec]; simp [h]
  · simp [h]
/-- Both pages of a side. -/
def sideV (n s : Int) (back : Bool) : Int × Int := if back = true then (2 * s, 4 * n + 1 - 2 * s) else (4 * n + 2 - 2 * s, 2 * s - 1)
theorem side_spec {n s : Int} {back : Bool} (h0 : 1 ≤ n) (h1 : n ≤ 100) (h2 : 1 ≤ s) (h3 : s ≤ n) : spec_foSide.f n s back = some (sideV n s back) := by
  unfold spec_foSide.f sideV
  rw [w64 (x := 2 * s) (by omega) (by omega), w64 (x := 4 * n) (by omega) (by omega), w64 (x := 4 * n + 1) (by omega) (by omega), w64 (x := 4 * n + 2) (by omega) (by omega), w64 (by omega) (by omega), w64 (by omega) (by omega), w64 (by omega) (by omega)]
  cases back <;> simp
/-- The sheet of a page, whether on its back, and whether on its right side. -/
def placeV (n p : Int) : Int × Bool × Bool :=
  if p ≤ 2 * n then (if p % 2 = 1 then ((p + 1) / 2, false, true) else (p / 2, true, false))
  else (if p % 2 = 0 then ((4 * n + 2 - p) / 2, false, false) else ((4 * n + 1 - p) / 2, true, true))
theorem place_l1 {n p x : Int} (h0 : 1 ≤ n) (h1 : n ≤ 100) (h2 : 1 ≤ p) (h3 : p ≤ 4 * n) (h4 : 1 ≤ x) (h5 : x ≤ n) (k : Nat) :
    spec_PlaceOfPage.l1 (k + 3) n p x [false, true] 2 0 = if (placeV n p).1 = x then some ((placeV n p).1, (placeV n p).2.1, (placeV n p).2.2, true) else spec_PlaceOfPage.l0 k n p (x + 1) := by
  have r0 : rdOf false [false, true] 0 = false := rfl
  have r1 : rdOf false [false, true] 1 = true := rfl
  have l2 : (([false, true] : List Bool).length : Int) = 2 := rfl
  rw [spec_PlaceOfPage.l1, if_pos (by decide), if_pos (by decide), l2, if_pos (by decide), r0, side_spec h0 h1 h4 h5]
  simp only [Option.bind_some]
  rw [show sideV n x false = (4 * n + 2 - 2 * x, 2 * x - 1) from rfl]
  by_cases c1 : 4 * n + 2 - 2 * x = p
  · have e : placeV n p = (x, false, false) := by
      unfold placeV
      rw [if_neg (by omega), if_pos (by omega)]
      exact Prod.ext (by show _ / 2 = x; omega) rfl
    rw [if_pos c1, e, if_pos rfl]
    have : (2 * x - 1 == p) = false := by rw [beq_eq_false_iff_ne]; omega
    simp only [this]
  · rw [if_neg c1]
    by_cases c2 : 2 * x - 1 = p
    · have e : placeV n p = (x, false, true) := by
        unfold placeV
        rw [if_pos (by omega), if_pos (by omega)]
        exact Prod.ext (by show _ / 2 = x; omega) rfl
      rw [if_pos c2, e, if_pos rfl]
      have : (2 * x - 1 == p) = true := by rw [beq_iff_eq]; omega
      simp only [this]
    · rw [if_neg c2, w64 (x := 0 + 1) (by decide) (by decide)]
      rw [spec_PlaceOfPage.l1, if_pos (by decide), if_pos (by decide), l2, if_pos (by decide), show (0 : Int) + 1 = 1 from rfl, r1, side_spec h0 h1 h4 h5]
      simp only [Option.bind_some]
      rw [show sideV n x true = (2 * x, 4 * n + 1 - 2 * x) from rfl]
      by_cases c3 : 2 * x = p
      · have e : placeV n p = (x, true, false) := by
          unfold placeV
          rw [if_pos (by omega), if_neg (by omega)]
          exact Prod.ext (by show _ / 2 = x; omega) rfl
        rw [if_pos c3, e, if_pos rfl]
        have : (4 * n + 1 - 2 * x == p) = false := by rw [beq_eq_false_iff_ne]; omega
        simp only [this]
      · rw [if_neg c3]
        by_cases c4 : 4 * n + 1 - 2 * x = p
        · have e : placeV n p = (x, true, true) := by
            unfold placeV
            rw [if_neg (by omega), if_neg (by omega)]
            exact Prod.ext (by show _ / 2 = x; omega) rfl
          rw [if_pos c4, e, if_pos rfl]
          have : (4 * n + 1 - 2 * x == p) = true := by rw [beq_iff_eq]; omega
          simp only [this]
        · have e : ¬ (placeV n p).1 = x := by
            unfold placeV
            split <;> split <;> simp only <;> omega
          rw [if_neg c4, if_neg e, w64 (x := 1 + 1) (by decide) (by decide), spec_PlaceOfPage.l1, if_neg (by decide), w64 (x := x + 1) (by omega) (by omega)]
theorem placeV_in {n p : Int} (h0 : 1 ≤ n) (h2 : 1 ≤ p) (h3 : p ≤ 4 * n) : 1 ≤ (placeV n p).1 ∧ (placeV n p).1 ≤ n := by
  unfold placeV
  split <;> split <;> simp only <;> omega
theorem place_l0 {n p : Int} (h0 : 1 ≤ n) (h1 : n ≤ 100) (h2 : 1 ≤ p) (h3 : p ≤ 4 * n) (d : Nat) : ∀ x : Int, 1 ≤ x → x + d = (placeV n p).1 → ∀ k, 4 * d + 4 ≤ k →
    spec_PlaceOfPage.l0 k n p x = some ((placeV n p).1, (placeV n p).2.1, (placeV n p).2.2, true) := by
  have hp := placeV_in h0 h2 h3
  induction d with
  | zero =>
    intro x h4 h5 k hk
    obtain ⟨k, rfl⟩ : ∃ m, k = m + 4 := ⟨k - 4, by omega⟩
    rw [spec_PlaceOfPage.l0, if_pos (by omega)]
    simp only [Option.bind_some]
    rw [show (([false, true] : List Bool).length : Int) = 2 from rfl, place_l1 h0 h1 h2 h3 h4 (by omega), if_pos (by omega)]
  | succ d ih =>
    intro x h4 h5 k hk
    obtain ⟨k, rfl⟩ : ∃ m, k = m + 4 := ⟨k - 4, by omega⟩
    rw [spec_PlaceOfPage.l0, if_pos (by omega)]
    simp only [Option.bind_some]
    rw [show (([false, true] : List Bool).length : Int) = 2 from rfl, place_l1 h0 h1 h2 h3 h4 (by omega), if_neg (by omega)]
    exact ih (x + 1) (by omega) (by omega) k (by omega)
theorem place_spec {n p : Int} (h0 : 1 ≤ n) (h1 : n ≤ 100) (h2 : 1 ≤ p) (h3 : p ≤ 4 * n) (k : Nat) (hk : 404 ≤ k) :
    spec_PlaceOfPage.f k n p = some ((placeV n p).1, (placeV n p).2.1, (placeV n p).2.2, true) := by
  have hb : (1 ≤ n ∧ n ≤ 100) ∧ 1 ≤ p ∧ p ≤ 4 * n := ⟨⟨h0, h1⟩, h2, h3⟩
  have hp := placeV_in h0 h2 h3
  unfold spec_PlaceOfPage.f
  rw [page_spec, decide_eq_true hb]
  simp only [Option.bind_some, if_true]
  exact place_l0 h0 h1 h2 h3 ((placeV n p).1 - 1).toNat 1 (by omega) (by omega) k (by omega)
theorem sheets_impl (a : Int) : impl_isSheets.f a = some (decide (1 ≤ a ∧ a ≤ 100)) := by simp [impl_isSheets.f, in_impl]
theorem page_impl (n p : Int) : impl_isPageOf.f n p = some (decide ((1 ≤ n ∧ n ≤ 100) ∧ 1 ≤ p ∧ p ≤ 4 * n)) := by
  unfold impl_isPageOf.f
  rw [sheets_impl]
  by_cases h : 1 ≤ n ∧ n ≤ 100
  · rw [w64 (x := 4 * n) (by omega) (by omega), in_impl]; simp [h]
  · simp [h]
theorem side_impl {n s : Int} {back : Bool} (h0 : 1 ≤ n) (h1 : n ≤ 100) (h2 : 1 ≤ s) (h3 : s ≤ n) : impl_side.f n s back = some (sideV n s back) := by
  unfold impl_side.f sideV
  rw [w64 (x := 2 * s) (by omega) (by omega), w64 (x := 4 * n) (by omega) (by omega), w64 (x := 2 * s - 1) (by omega) (by omega), w64 (x := 2 * s - 1 + 1) (by omega) (by omega), w64 (x := 4 * n - 2 * s) (by omega) (by omega), w64 (x := 4 * n - 2 * s + 2) (by omega) (by omega), w64 (by omega) (by omega)]
  cases back
  · simp; omega
  · simp; omega
theorem place_impl {n p : Int} (h0 : 1 ≤ n) (h1 : n ≤ 100) (h2 : 1 ≤ p) (h3 : p ≤ 4 * n) : impl_PlaceOfPage.f n p = some ((placeV n p).1, (placeV n p).2.1, (placeV n p).2.2, true) := by
  have hb : (1 ≤ n ∧ n ≤ 100) ∧ 1 ≤ p ∧ p ≤ 4 * n := ⟨⟨h0, h1⟩, h2, h3⟩
  have hp := placeV_in h0 h2 h3
  have hm : mn p (4 * n + 1 - p) = if 4 * n + 1 - p < p then 4 * n + 1 - p else p := rfl
  have hm0 : 1 ≤ mn p (4 * n + 1 - p) ∧ mn p (4 * n + 1 - p) ≤ 400 := by rw [hm]; split <;> omega
  have hs : (mn p (4 * n + 1 - p) + 1) / 2 = (placeV n p).1 := by
    unfold placeV
    by_cases d : 4 * n + 1 - p < p
    · rw [if_pos d] at hm
      rw [if_neg (by omega)]
      split <;> simp only <;> omega
    · rw [if_neg d] at hm
      rw [if_pos (by omega)]
      split <;> simp only <;> omega
  unfold impl_PlaceOfPage.f
  rw [page_impl, decide_eq_true hb]
  simp only [Option.bind_some, if_true]
  rw [w64 (x := 4 * n) (by omega) (by omega), w64 (x := 4 * n + 1) (by omega) (by omega), w64 (x := 4 * n + 1 - p) (by omega) (by omega), w64 (x := mn p (4 * n + 1 - p) + 1) (by omega) (by omega), td (by omega), w64 (by omega) (by omega), hs]
  generalize hv : placeV n p = v at hp
  obtain ⟨s, b, r⟩ := v
  simp only at hp ⊢
  unfold impl_PlaceOfPage.g0 impl_PlaceOfPage.g1
  rw [side_impl h0 h1 hp.1 hp.2, side_impl h0 h1 hp.1 hp.2]
  simp only [Option.bind_some]
  rw [show sideV n s false = (4 * n + 2 - 2 * s, 2 * s - 1) from rfl, show sideV n s true = (2 * s, 4 * n + 1 - 2 * s) from rfl]
  unfold placeV at hv
  by_cases c1 : p ≤ 2 * n
  · rw [if_pos c1] at hv
    by_cases c2 : p % 2 = 1
    · rw [if_pos c2] at hv
      simp only [Prod.mk.injEq] at hv
      obtain ⟨e1, rfl, rfl⟩ := hv
      rw [if_neg (by show ¬ 4 * n + 2 - 2 * s = p; omega), if_pos (by show 2 * s - 1 = p; omega), show (2 * s - 1 == p) = true by rw [beq_iff_eq]; omega]
    · rw [if_neg c2] at hv
      simp only [Prod.mk.injEq] at hv
      obtain ⟨e1, rfl, rfl⟩ := hv
      rw [if_neg (by show ¬ 4 * n + 2 - 2 * s = p; omega), if_neg (by show ¬ 2 * s - 1 = p; omega), if_pos (by show 2 * s = p; omega), show (4 * n + 1 - 2 * s == p) = false by rw [beq_eq_false_iff_ne]; omega]
  · rw [if_neg c1] at hv
    by_cases c2 : p % 2 = 0
    · rw [if_pos c2] at hv
      simp only [Prod.mk.injEq] at hv
      obtain ⟨e1, rfl, rfl⟩ := hv
      rw [if_pos (by show 4 * n + 2 - 2 * s = p; omega), show (2 * s - 1 == p) = false by rw [beq_eq_false_iff_ne]; omega]
    · rw [if_neg c2] at hv
      simp only [Prod.mk.injEq] at hv
      obtain ⟨e1, rfl, rfl⟩ := hv
      rw [if_neg (by show ¬ 4 * n + 2 - 2 * s = p; omega), if_neg (by show ¬ 2 * s - 1 = p; omega), if_neg (by show ¬ 2 * s = p; omega), if_pos (by show 4 * n + 1 - 2 * s = p; omega), show (4 * n + 1 - 2 * s == p) = true by rw [beq_iff_eq]; omega]

/-- YOURS: ∀ (a0 : Int) (a1 : Int), (Lit.int .i64 a0).wf = true → (Lit.int .i64 a1).wf = true → ∃ k, laws_FnExactPlaceOfPage.f k a0 a1 = some true
What it reaches (each with k first where it has rounds; `.mono`: more rounds tell the same; `.l0`, ..: its loops, with `.mono_l`): spec_l1In.f, spec_foSheets.f, spec_foPage.f, spec_foSide.f, spec_PlaceOfPage.f, impl_within.f, impl_isSheets.f, impl_isPageOf.f, impl_side.f, impl_PlaceOfPage.f, laws_FnExactPlaceOfPage.f -/
theorem FnExactPlaceOfPage : laws_FnExactPlaceOfPage.Pure := by
  intro a0 a1 _ _
  by_cases hb : (1 ≤ a0 ∧ a0 ≤ 100) ∧ 1 ≤ a1 ∧ a1 ≤ 4 * a0
  · refine ⟨404, ?_⟩
    unfold laws_FnExactPlaceOfPage.f
    rw [place_spec hb.1.1 hb.1.2 hb.2.1 hb.2.2 404 (by omega), place_impl hb.1.1 hb.1.2 hb.2.1 hb.2.2]
    simp
  · refine ⟨0, ?_⟩
    unfold laws_FnExactPlaceOfPage.f spec_PlaceOfPage.f impl_PlaceOfPage.f
    rw [page_spec, page_impl, decide_eq_false hb]
    simp

end Go.Proofs.Ytekoimaffabaoaa.Pure
