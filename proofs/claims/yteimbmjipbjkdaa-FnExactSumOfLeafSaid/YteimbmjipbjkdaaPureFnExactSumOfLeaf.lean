/- The program's SumOfLeaf returns what the reference's SumOfLeaf returns: the plain statement, over numbers and lists, for all arguments; each number of its Go kind, each string and slice within the reader's bounds. -/
import Derived.Test.YteimbmjipbjkdaaPFnExactSumOfLeafx1
namespace Go.Proofs.Yteimbmjipbjkdaa.Pure
open Go.RowKit Go.Proofs.Yteimbmjipbjkdaa.PFnExactSumOfLeaf Go.Proofs.YteimbmjipbjkdaaW.PrintWords Go.Proofs.YteimbmjipbjkdaaW.PrintLast

/-- YOURS: ∀ (a0 : Int), (Lit.int .i64 a0).wf = true → laws_FnExactSumOfLeaf.f a0 = some true
What it reaches (each with k first where it has rounds; `.mono`: more rounds tell the same; `.l0`, ..: its loops, with `.mono_l`): spec_l1In.f, spec_bpLeaf.f, spec_SumOfLeaf.f, impl_within.f, impl_isLeaf.f, impl_SumOfLeaf.f, laws_FnExactSumOfLeaf.f -/
theorem FnExactSumOfLeaf : laws_FnExactSumOfLeaf.Pure := by
  intro a0 _
  by_cases h0 : 1 ≤ a0 <;> by_cases h1 : a0 ≤ 1000 <;>
    simp [laws_FnExactSumOfLeaf.f, spec_l1In.f, spec_bpLeaf.f, spec_SumOfLeaf.f, impl_within.f, impl_isLeaf.f, impl_SumOfLeaf.f, h0, h1]

end Go.Proofs.Yteimbmjipbjkdaa.Pure
