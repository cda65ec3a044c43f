/- The program's LeavesOfBook returns what the reference's LeavesOfBook returns: the plain statement, over numbers and lists, for all arguments; each number of its Go kind, each string and slice within the reader's bounds. -/
import Derived.Test.YteimbmjipbjkdaaPFnExactLeavesOfBookx1
namespace Go.Proofs.Yteimbmjipbjkdaa.Pure
open Go.RowKit Go.Proofs.Yteimbmjipbjkdaa.PFnExactLeavesOfBook Go.Proofs.YteimbmjipbjkdaaW.PrintWords Go.Proofs.YteimbmjipbjkdaaW.PrintLast

/-- YOURS: ∀ (a0 : Int), (Lit.int .i64 a0).wf = true → laws_FnExactLeavesOfBook.f a0 = some true
What it reaches (each with k first where it has rounds; `.mono`: more rounds tell the same; `.l0`, ..: its loops, with `.mono_l`): spec_l1In.f, spec_bpBook.f, spec_LeavesOfBook.f, impl_within.f, impl_isBook.f, impl_LeavesOfBook.f, laws_FnExactLeavesOfBook.f -/
theorem FnExactLeavesOfBook : laws_FnExactLeavesOfBook.Pure := by
  intro a0 _
  by_cases h0 : 1 ≤ a0 <;> by_cases h1 : a0 ≤ 2000 <;>
    simp [laws_FnExactLeavesOfBook.f, spec_l1In.f, spec_bpBook.f, spec_LeavesOfBook.f, impl_within.f, impl_isBook.f, impl_LeavesOfBook.f, h0, h1]

end Go.Proofs.Yteimbmjipbjkdaa.Pure
