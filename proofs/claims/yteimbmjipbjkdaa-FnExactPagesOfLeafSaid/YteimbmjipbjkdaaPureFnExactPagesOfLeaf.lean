/- The program's PagesOfLeaf returns what the reference's PagesOfLeaf returns: the plain statement, over numbers and lists, for all arguments; each number of its Go kind, each string and slice within the reader's bounds. -/
import Derived.Test.YteimbmjipbjkdaaPFnExactPagesOfLeafx1
namespace Go.Proofs.Yteimbmjipbjkdaa.Pure
open Go.RowKit Go.Proofs.Yteimbmjipbjkdaa.PFnExactPagesOfLeaf Go.Proofs.YteimbmjipbjkdaaW.PrintWords Go.Proofs.YteimbmjipbjkdaaW.PrintLast

/-- YOURS: ∀ (a0 : Int), (Lit.int .i64 a0).wf = true → laws_FnExactPagesOfLeaf.f a0 = some true
What it reaches (each with k first where it has rounds; `.mono`: more rounds tell the same; `.l0`, ..: its loops, with `.mono_l`): spec_l1In.f, spec_bpLeaf.f, spec_PagesOfLeaf.f, impl_within.f, impl_isLeaf.f, impl_PagesOfLeaf.f, laws_FnExactPagesOfLeaf.f -/
theorem FnExactPagesOfLeaf : laws_FnExactPagesOfLeaf.Pure := by
  intro a0 _
  by_cases h0 : 1 ≤ a0 <;> by_cases h1 : a0 ≤ 1000 <;>
    simp [laws_FnExactPagesOfLeaf.f, spec_l1In.f, spec_bpLeaf.f, spec_PagesOfLeaf.f, impl_within.f, impl_isLeaf.f, impl_PagesOfLeaf.f, h0, h1]

end Go.Proofs.Yteimbmjipbjkdaa.Pure
