/- The program's MiddlePages returns what the reference's MiddlePages returns: the plain statement, over numbers and lists, for all arguments; each number of its Go kind, each string and slice within the reader's bounds. -/
import Derived.Test.YteimbmjipbjkdaaPFnExactMiddlePagesx1
namespace Go.Proofs.Yteimbmjipbjkdaa.Pure
open Go.RowKit Go.Proofs.Yteimbmjipbjkdaa.PFnExactMiddlePages Go.Proofs.YteimbmjipbjkdaaW.PrintWords Go.Proofs.YteimbmjipbjkdaaW.PrintLast

/-- YOURS: ∀ (a0 : Int), (Lit.int .i64 a0).wf = true → laws_FnExactMiddlePages.f a0 = some true
What it reaches (each with k first where it has rounds; `.mono`: more rounds tell the same; `.l0`, ..: its loops, with `.mono_l`): spec_l1In.f, spec_foSheets.f, spec_MiddlePages.f, impl_within.f, impl_isSheets.f, impl_MiddlePages.f, laws_FnExactMiddlePages.f -/
theorem FnExactMiddlePages : laws_FnExactMiddlePages.Pure := by
  intro a0 _
  by_cases h0 : 1 ≤ a0 <;> by_cases h1 : a0 ≤ 100 <;>
    simp [laws_FnExactMiddlePages.f, spec_l1In.f, spec_foSheets.f, spec_MiddlePages.f, impl_within.f, impl_isSheets.f, impl_MiddlePages.f, h0, h1]

end Go.Proofs.Yteimbmjipbjkdaa.Pure
