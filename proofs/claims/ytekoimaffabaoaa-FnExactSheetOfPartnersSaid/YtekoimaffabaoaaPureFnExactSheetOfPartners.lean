/- The program's SheetOfPartners returns what the reference's SheetOfPartners returns: the plain statement, over numbers and lists, for all arguments; each number of its Go kind, each string and slice within the reader's bounds. -/
import Derived.Test.YtekoimaffabaoaaPFnExactSheetOfPartnersx1
namespace Go.Proofs.Ytekoimaffabaoaa.Pure
open Go.RowKit Go.Proofs.Ytekoimaffabaoaa.PFnExactSheetOfPartners Go.Proofs.YtekoimaffabaoaaW.PrintWords Go.Proofs.YtekoimaffabaoaaW.PrintLast
set_option linter.unusedVariables false
set_option linter.unusedSimpArgs false

theorem w64 {x : Int} (h0 : -9223372036854775808 ≤ x) (h1 : x ≤ 9223372036854775807) : wrap64 x = x := by unfold wrap64; omega
theorem td {a b : Int} (h : 0 ≤ a) : Int.tdiv a b = a / b := Int.tdiv_eq_ediv_of_nonneg h
theorem tm {a b : Int} (h : 0 ≤ a) : Int.tmod a b = a % b := Int.tmod_eq_emod_of_nonneg h
theorem wf64 {n : Int} (h : (Lit.int .i64 n).wf = true) : -9223372036854775808 ≤ n ∧ n ≤ 9223372036854775807 := by
  simp [Lit.wf, IntKind.min, IntKind.max, IntKind.signed, IntKind.bits] at h
  omega
theorem in_spec (a b c : Int) : spec_l1In.f a b c = some (decide (b ≤ a ∧ a ≤ c)) := by
  unfold spec_l1In.f; by_cases h : b ≤ a <;> simp [h]
theorem in_impl (a b c : Int) : impl_within.f a b c = some (decide (b ≤ a ∧ a ≤ c)) := by
  unfold impl_within.f; by_cases h : b ≤ a <;> simp [h]
theorem sheets_spec (a : Int) : spec_foSheets.f a = some (decide (1 ≤ a ∧ a ≤ 100)) := by simp [spec_foSheets.f, in_spec]
theorem page_spec (n p : Int) : spec_foPage.f n p = some (decide ((1 ≤ n ∧ n ≤ 100) ∧ 1 ≤ p ∧ p ≤ 4 * n)) := by
  unfold spec_foPage.f
  rw [sheets_spec]
  by_cases h : 1 ≤ n ∧ n ≤ 100
  · rw [w64 (x := 4 * n) (by omega) (by omega), in_spec]; simp [h]
  · simp [h]
/-- Both pages of a side. -/
def sideV (n s : Int) (back : Bool) : Int × Int := if back = true then (2 * s, 4 * n + 1 - 2 * s) else (4 * n + 2 - 2 * s, 2 * s - 1)
theorem side_spec {n s : Int} {back : Bool} (h0 : 1 ≤ n) (h1 : n ≤ 100) (h2 : 1 ≤ s) (h3 : s ≤ n) : spec_foSide.f n s back = some (sideV n s back) := by
  unfold spec_foSide.f sideV
  rw [w64 (x := 2 * s) (by omega) (by omega), w64 (x := 4 * n) (by omega) (by omega), w64 (x := 4 * n + 1) (by omega) (by omega), w64 (x := 4 * n + 2) (by omega) (by omega), w64 (by omega) (by omega), w64 (by omega) (by omega), w64 (by omega) (by omega)]
  cases back <;> simp
/-- The sheet of a page, whether on its back, and whether on its right side. -/
def placeV (n p : Int) : Int × Bool × Bool :=
  if p ≤ 2 * n then (if p % 2 = 1 then ((p + 1) / 2, false, true) else (p / 2, true, false))
  else (if p % 2 = 0 then ((4 * n + 2 - p) / 2, false, false) else ((4 * n + 1 - p) / 2, true, true))
theorem place_l1 {n p x : Int} (h0 : 1 ≤ n) (h1 : n ≤ 100) (h2 : 1 ≤ p) (h3 : p ≤ 4 * n) (h4 : 1 ≤ x) (h5 : x ≤ n) (k : Nat) :
    spec_PlaceOfPage.l1 (k + 3) n p x [false, true] 2 0 = if (placeV n p).1 = x then some ((placeV n p).1, (placeV n p).2.1, (placeV n p).2.2, true) else spec_PlaceOfPage.l0 k n p (x + 1) := by
  have r0 : rdOf false [false, true] 0 = false := rfl
  have r1 : rdOf false [false, true] 1 = true := rfl
  have l2 : (([false, true] : List Bool).length : Int) = 2 := rfl
  rw [spec_PlaceOfPage.l1, if_pos (by decide), if_pos (by decide), l2, if_pos (by decide), r0, side_spec h0 h1 h4 h5]
  simp only [Option.bind_some]
  rw [show sideV n x false = (4 * n + 2 - 2 * x, 2 * x - 1) from rfl]
  by_cases c1 : 4 * n + 2 - 2 * x = p
  · have e : placeV n p = (x, false, false) := by
      unfold placeV
      rw [if_neg (by omega), if_pos (by omega)]
      exact Prod.ext (by show _ / 2 = x; omega) rfl
    rw [if_pos c1, e, if_pos rfl]
    have : (2 * x - 1 == p) = false := by rw [beq_eq_false_iff_ne]; omega
    simp only [this]
  · rw [if_neg c1]
    by_cases c2 : 2 * x - 1 = p
    · have e : placeV n p = (x, false, true) := by
        unfold placeV
        rw [if_pos (by omega), if_pos (by omega)]
        exact Prod.ext (by show _ / 2 = x; omega) rfl
      rw [if_pos c2, e, if_pos rfl]
      have : (2 * x - 1 == p) = true := by rw [beq_iff_eq]; omega
      simp only [this]
    · rw [if_neg c2, w64 (x := 0 + 1) (by decide) (by decide)]
      rw [spec_PlaceOfPage.l1, if_pos (by decide), if_pos (by decide), l2, if_pos (by decide), show (0 : Int) + 1 = 1 from rfl, r1, side_spec h0 h1 h4 h5]
      simp only [Option.bind_some]
      rw [show sideV n x true = (2 * x, 4 * n + 1 - 2 * x) from rfl]
      by_cases c3 : 2 * x = p
      · have e : placeV n p = (x, true, false) := by
          unfold placeV
          rw [if_pos (by omega), if_neg (by omega)]
          exact Prod.ext (by show _ / 2 = x; omega) rfl
        rw [if_pos c3, e, if_pos rfl]
        have : (4 * n + 1 - 2 * x == p) = false := by rw [beq_eq_false_iff_ne]; omega
        simp only [this]
      · rw [if_neg c3]
        by_cases c4 : 4 * n + 1 - 2 * x = p
        · have e : placeV n p = (x, true, true) := by
            unfold placeV
            rw [if_neg (by omega), if_neg (by omega)]
            exact Prod.ext (by show _ / 2 = x; omega) rfl
          rw [if_pos c4, e, if_pos rfl]
          have : (4 * n + 1 - 2 * x == p) = true := by rw [beq_iff_eq]; omega
          simp only [this]
        · have e : ¬ (placeV n p).1 = x := by
            unfold placeV
            split <;> split <;> simp only <;> omega
          rw [if_neg c4, if_neg e, w64 (x := 1 + 1) (by decide) (by decide), spec_PlaceOfPage.l1, if_neg (by decide), w64 (x := x + 1) (by omega) (by omega)]
theorem placeV_in {n p : Int} (h0 : 1 ≤ n) (h2 : 1 ≤ p) (h3 : p ≤ 4 * n) : 1 ≤ (placeV n p).1 ∧ (placeV n p).1 ≤ n := by
  unfold placeV
  split <;> split <;> simp only <;> omega
theorem place_l0 {n p : Int} (h0 : 1 ≤ n) (h1 : n ≤ 100) (h2 : 1 ≤ p) (h3 : p ≤ 4 * n) (d : Nat) : ∀ x : Int, 1 ≤ x → x + d = (placeV n p).1 → ∀ k, 4 * d + 4 ≤ k →
    spec_PlaceOfPage.l0 k n p x = some ((placeV n p).1, (placeV n p).2.1, (placeV n p).2.2, true) := by
  have hp := placeV_in h0 h2 h3
  induction d with
  | zero =>
    intro x h4 h5 k hk
    obtain ⟨k, rfl⟩ : ∃ m, k = m + 4 := ⟨k - 4, by omega⟩
    rw [spec_PlaceOfPage.l0, if_pos (by omega)]
    simp only [Option.bind_some]
    rw [show (([false, true] : List Bool).length : Int) = 2 from rfl, place_l1 h0 h1 h2 h3 h4 (by omega), if_pos (by omega)]
  | succ d ih =>
    intro x h4 h5 k hk
    obtain ⟨k, rfl⟩ : ∃ m, k = m + 4 := ⟨k - 4, by omega⟩
    rw [spec_PlaceOfPage.l0, if_pos (by omega)]
    simp only [Option.bind_some]
    rw [show (([false, true] : List Bool).length : Int) = 2 from rfl, place_l1 h0 h1 h2 h3 h4 (by omega), if_neg (by omega)]
    exact ih (x + 1) (by omega) (by omega) k (by omega)
theorem place_spec {n p : Int} (h0 : 1 ≤ n) (h1 : n ≤ 100) (h2 : 1 ≤ p) (h3 : p ≤ 4 * n) (k : Nat) (hk : 404 ≤ k) :
    spec_PlaceOfPage.f k n p = some ((placeV n p).1, (placeV n p).2.1, (placeV n p).2.2, true) := by
  have hb : (1 ≤ n ∧ n ≤ 100) ∧ 1 ≤ p ∧ p ≤ 4 * n := ⟨⟨h0, h1⟩, h2, h3⟩
  have hp := placeV_in h0 h2 h3
  unfold spec_PlaceOfPage.f
  rw [page_spec, decide_eq_true hb]
  simp only [Option.bind_some, if_true]
  exact place_l0 h0 h1 h2 h3 ((placeV n p).1 - 1).toNat 1 (by omega) (by omega) k (by omega)
theorem sheets_impl (a : Int) : impl_isSheets.f a = some (decide (1 ≤ a ∧ a ≤ 100)) := by simp [impl_isSheets.f, in_impl]
theorem page_impl (n p : Int) : impl_isPageOf.f n p = some (decide ((1 ≤ n ∧ n ≤ 100) ∧ 1 ≤ p ∧ p ≤ 4 * n)) := by
  unfold impl_isPageOf.f
  rw [sheets_impl]
  by_cases h : 1 ≤ n ∧ n ≤ 100
  · rw [w64 (x := 4 * n) (by omega) (by omega), in_impl]; simp [h]
  · simp [h]

/-- YOURS: ∀ (a0 : Int) (a1 : Int) (a2 : Int), (Lit.int .i64 a0).wf = true → (Lit.int .i64 a1).wf = true → (Lit.int .i64 a2).wf = true → ∃ k, laws_FnExactSheetOfPartners.f k a0 a1 a2 = some true
What it reaches (each with k first where it has rounds; `.mono`: more rounds tell the same; `.l0`, ..: its loops, with `.mono_l`): spec_l1In.f, spec_foSheets.f, spec_foPage.f, spec_foSide.f, spec_PlaceOfPage.f, spec_SheetOfPartners.f, impl_within.f, impl_isSheets.f, impl_isPageOf.f, impl_SheetOfPartners.f, laws_FnExactSheetOfPartners.f -/
theorem FnExactSheetOfPartners : laws_FnExactSheetOfPartners.Pure := by
  intro a0 a1 a2 w0 w1 w2
  have hw0 := wf64 w0
  have hw1 := wf64 w1
  refine ⟨404, ?_⟩
  unfold laws_FnExactSheetOfPartners.f spec_SheetOfPartners.f impl_SheetOfPartners.f
  simp only [page_spec, page_impl]
  by_cases hb : (1 ≤ a2 ∧ a2 ≤ 100) ∧ 1 ≤ a0 ∧ a0 ≤ 4 * a2
  · by_cases hc : (1 ≤ a2 ∧ a2 ≤ 100) ∧ 1 ≤ a1 ∧ a1 ≤ 4 * a2
    · rw [w64 (x := a0 + a1) (by omega) (by omega), w64 (x := 4 * a2) (by omega) (by omega), w64 (x := 4 * a2 + 1) (by omega) (by omega)]
      simp only [decide_eq_true hb, decide_eq_true hc, Option.bind_some, if_true]
      by_cases c : a0 + a1 = 4 * a2 + 1
      · rw [if_pos c, if_pos c, place_spec hb.1.1 hb.1.2 hb.2.1 hb.2.2 404 (by omega)]
        have e : wrap64 (Int.tdiv (wrap64 ((mn a0 a1) + 1)) 2) = (placeV a2 a0).1 := by
          have hm : mn a0 a1 = if a1 < a0 then a1 else a0 := rfl
          have hm0 : 1 ≤ mn a0 a1 ∧ mn a0 a1 ≤ 400 := by rw [hm]; split <;> omega
          rw [w64 (x := mn a0 a1 + 1) (by omega) (by omega), td (by omega), w64 (by omega) (by omega)]
          unfold placeV
          by_cases d : a1 < a0
          · rw [if_pos d] at hm
            rw [if_neg (by omega)]
            split <;> simp only <;> omega
          · rw [if_neg d] at hm
            rw [if_pos (by omega)]
            split <;> simp only <;> omega
        rw [e]
        simp
      · rw [if_neg c, if_neg c]
        simp
    · simp only [decide_eq_true hb, decide_eq_false hc]
      simp
  · simp only [decide_eq_false hb]
    simp

end Go.Proofs.Ytekoimaffabaoaa.Pure
