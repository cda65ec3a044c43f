/- The program's SideOfSheet returns what the reference's SideOfSheet returns: the plain statement, over numbers and lists, for all arguments; each number of its Go kind, each string and slice within the reader's bounds. -/
import Derived.Test.YtcbhdepgamncaaaPFnExactSideOfSheetx1
namespace Go.Proofs.Ytcbhdepgamncaaa.Pure
open Go.RowKit Go.Proofs.Ytcbhdepgamncaaa.PFnExactSideOfSheet Go.Proofs.YtcbhdepgamncaaaW.PrintWords Go.Proofs.YtcbhdepgamncaaaW.PrintLast
set_option linter.unusedVariables false
set_option linter.unusedSimpArgs false

theorem w64 {x : Int} (h0 : -9223372036854775808 ≤ x) (h1 : x ≤ 9223372036854775807) : wrap64 x = x := by unfold wrap64; omega
theorem td {a b : Int} (h : 0 ≤ a) : Int.tdiv a b = a / b := Int.tdiv_eq_ediv_of_nonneg h
theorem tm {a b : Int} (h : 0 ≤ a) : Int.tmod a b = a % b := Int.tmod_eq_emod_of_nonneg h
theorem wf64 {n : Int} (h : (Lit.int .i64 n).wf = true) : -9223372036854775808 ≤ n ∧ n ≤ 9223372036854775807 := by
  simp [Lit.wf, IntKind.min, IntKind.max, IntKind.signed, IntKind.bits] at h
  omega
theorem in_spec (a b c : Int) : spec_l1In.f a b c = some (decide (b ≤ a ∧ a ≤ c)) := by
  unfold spec_l1In.f; by_cases h : b ≤ a <;> simp [h]
theorem in_impl (a b c : Int) : impl_within.f a b c = some (decide (b ≤ a ∧ a ≤ c)) := by
  unfold impl_within.f; by_cases h : b ≤ a <;> simp [h]
theorem sheets_spec (a : Int) : spec_foSheets.f a = some (decide (1 ≤ a ∧ a ≤ 100)) := by simp [spec_foSheets.f, in_spec]
theorem sheets_impl (a : Int) : impl_isSheets.f a = some (decide (1 ≤ a ∧ a ≤ 100)) := by simp [impl_isSheets.f, in_impl]
/-- Both pages of a side. -/
def sideV (n s : Int) (back : Bool) : Int × Int := if back = true then (2 * s, 4 * n + 1 - 2 * s) else (4 * n + 2 - 2 * s, 2 * s - 1)
theorem side_spec {n s : Int} {back : Bool} (h0 : 1 ≤ n) (h1 : n ≤ 100) (h2 : 1 ≤ s) (h3 : s ≤ n) : spec_foSide.f n s back = some (sideV n s back) := by
  unfold spec_foSide.f sideV
  rw [w64 (x := 2 * s) (by omega) (by omega), w64 (x := 4 * n) (by omega) (by omega), w64 (x := 4 * n + 1) (by omega) (by omega), w64 (x := 4 * n + 2) (by omega) (by omega), w64 (by omega) (by omega), w64 (by omega) (by omega), w64 (by omega) (by omega)]
  cases back <;> simp
theorem side_impl {n s : Int} {back : Bool} (h0 : 1 ≤ n) (h1 : n ≤ 100) (h2 : 1 ≤ s) (h3 : s ≤ n) : impl_side.f n s back = some (sideV n s back) := by
  unfold impl_side.f sideV
  rw [w64 (x := 2 * s) (by omega) (by omega), w64 (x := 4 * n) (by omega) (by omega), w64 (x := 2 * s - 1) (by omega) (by omega), w64 (x := 2 * s - 1 + 1) (by omega) (by omega), w64 (x := 4 * n - 2 * s) (by omega) (by omega), w64 (x := 4 * n - 2 * s + 2) (by omega) (by omega), w64 (by omega) (by omega)]
  cases back
  · simp; omega
  · simp; omega

/-- YOURS: ∀ (a0 : Int) (a1 : Int) (a2 : Bool), (Lit.int .i64 a0).wf = true → (Lit.int .i64 a1).wf = true → laws_FnExactSideOfSheet.f a0 a1 a2 = some true
What it reaches (each with k first where it has rounds; `.mono`: more rounds tell the same; `.l0`, ..: its loops, with `.mono_l`): spec_l1In.f, spec_foSheets.f, spec_foSide.f, spec_SideOfSheet.f, impl_within.f, impl_isSheets.f, impl_side.f, impl_SideOfSheet.f, laws_FnExactSideOfSheet.f -/
theorem FnExactSideOfSheet : laws_FnExactSideOfSheet.Pure := by
  intro a0 a1 a2 _ _
  unfold laws_FnExactSideOfSheet.f spec_SideOfSheet.f impl_SideOfSheet.f
  rw [sheets_spec, sheets_impl, in_spec, in_impl]
  by_cases hb : 1 ≤ a0 ∧ a0 ≤ 100
  · by_cases hc : 1 ≤ a1 ∧ a1 ≤ a0
    · rw [side_spec hb.1 hb.2 hc.1 hc.2, side_impl hb.1 hb.2 hc.1 hc.2]
      simp [hb, hc]
    · simp [hb, hc]
  · simp [hb]

end Go.Proofs.Ytcbhdepgamncaaa.Pure
