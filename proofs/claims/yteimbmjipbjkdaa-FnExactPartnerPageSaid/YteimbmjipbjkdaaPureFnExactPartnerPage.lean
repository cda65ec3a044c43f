/- The program's PartnerPage returns what the reference's PartnerPage returns: the plain statement, over numbers and lists, for all arguments; each number of its Go kind, each string and slice within the reader's bounds. -/
import Derived.Test.YteimbmjipbjkdaaPFnExactPartnerPagex1
namespace Go.Proofs.Yteimbmjipbjkdaa.Pure
open Go.RowKit Go.Proofs.Yteimbmjipbjkdaa.PFnExactPartnerPage Go.Proofs.YteimbmjipbjkdaaW.PrintWords Go.Proofs.YteimbmjipbjkdaaW.PrintLast

/-- YOURS: ∀ (a0 : Int) (a1 : Int), (Lit.int .i64 a0).wf = true → (Lit.int .i64 a1).wf = true → laws_FnExactPartnerPage.f a0 a1 = some true
What it reaches (each with k first where it has rounds; `.mono`: more rounds tell the same; `.l0`, ..: its loops, with `.mono_l`): spec_l1In.f, spec_foSheets.f, spec_foPage.f, spec_PartnerPage.f, impl_within.f, impl_isSheets.f, impl_isPageOf.f, impl_PartnerPage.f, laws_FnExactPartnerPage.f -/
theorem FnExactPartnerPage : laws_FnExactPartnerPage.Pure := by
  intro a0 a1 _ _
  by_cases h0 : 1 ≤ a0 <;> by_cases h1 : a0 ≤ 100 <;> by_cases h2 : 1 ≤ a1 <;> by_cases h3 : a1 ≤ wrap64 (4 * a0) <;>
    simp [laws_FnExactPartnerPage.f, spec_l1In.f, spec_foSheets.f, spec_foPage.f, spec_PartnerPage.f, impl_within.f, impl_isSheets.f, impl_isPageOf.f, impl_PartnerPage.f, h0, h1, h2, h3]

end Go.Proofs.Yteimbmjipbjkdaa.Pure
