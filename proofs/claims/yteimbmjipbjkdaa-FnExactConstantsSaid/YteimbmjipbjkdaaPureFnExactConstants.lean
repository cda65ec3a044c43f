/- The program's Constants returns what the reference's Constants returns: the plain statement, over numbers and lists, for all arguments; each number of its Go kind, each string and slice within the reader's bounds. -/
import Derived.Test.YteimbmjipbjkdaaPFnExactConstantsx1
namespace Go.Proofs.Yteimbmjipbjkdaa.Pure
open Go.RowKit Go.Proofs.Yteimbmjipbjkdaa.PFnExactConstants Go.Proofs.YteimbmjipbjkdaaW.PrintWords Go.Proofs.YteimbmjipbjkdaaW.PrintLast

/-- YOURS: laws_FnExactConstants.f  = some true
What it reaches (each with k first where it has rounds; `.mono`: more rounds tell the same; `.l0`, ..: its loops, with `.mono_l`): laws_FnExactConstants.f -/
theorem FnExactConstants : laws_FnExactConstants.Pure := by
  rfl

end Go.Proofs.Yteimbmjipbjkdaa.Pure
