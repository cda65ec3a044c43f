-- WRITTEN BY A PROGRAM OF THIS SESSION (xprint), out of the translation: not trusted: it is checked as any text
import Derived.Test.YtjaeddckoocgbaaProg
import Derived.Below
import Derived.Deep.Draws
import Derived.Deep.AppendLies
import Derived.Maps.AppendAt
import Derived.OwnWalk
import Derived.Laws.BytesArg
import Derived.Laws.MakeOwn
import Derived.Laws.OwnMore
import Derived.Deep.OwnRows
import Derived.Tactics
import Derived.Lib.ConvBytes
import Derived.Laws.Slices
import Derived.WalkKit
import Derived.KernelRfl
import Derived.RowKit3
import Derived.Deep.LoopGhost
import Derived.Deep.QuietTactic
import Derived.BigQuiet
import Derived.WideLaws
import Derived.Deep.DeepCutAuto
import Derived.Deep.CutBlock
import Derived.Deep.RegionHeld3
import Derived.Laws.Rows
import Derived.Lib.AppendStr
import Derived.ArgAppend
import Derived.Laws.IdiomCopy
import Derived.OrdersHeld
import Derived.Laws.BitsLemmas
import Derived.RowKit
import Derived.Test.YtjaeddckoocgbaaShelf
import Derived.Test.YtjaeddckoocgbaaWWords
import Derived.Test.YtjaeddckoocgbaaWLast
import Derived.Test.YtjaeddckoocgbaaWTab
import Derived.Test.YtjaeddckoocgbaaWFour
import Derived.Test.YtjaeddckoocgbaaWQPut
import Derived.Test.YtjaeddckoocgbaaWApart
import Derived.Test.YtjaeddckoocgbaaWArr
import Derived.Test.YtjaeddckoocgbaaWZeros
import Derived.Test.YtjaeddckoocgbaaWFoot
import Derived.Test.YtjaeddckoocgbaaWKept
import Derived.Test.YtjaeddckoocgbaaWShare
import Derived.Test.YtjaeddckoocgbaaWN
import Derived.Test.YtjaeddckoocgbaaWFootNe
import Derived.Test.YtjaeddckoocgbaaWAt
import Derived.Test.YtjaeddckoocgbaaWEqStruct
import Derived.Test.YtjaeddckoocgbaaWRepsOne
import Derived.Test.YtjaeddckoocgbaaWInv
import Derived.Test.YtjaeddckoocgbaaWInvWords
import Derived.Test.YtjaeddckoocgbaaWGuard
import Derived.Test.YtjaeddckoocgbaaWNEv
import Derived.Test.YtjaeddckoocgbaaWMore
namespace Go.Proofs.Ytjaeddckoocgbaa.PFnExactCreasesOf
open Go.RowKit Go.Proofs.YtjaeddckoocgbaaW.PrintWords Go.Proofs.YtjaeddckoocgbaaW.PrintLast Go.Proofs.YtjaeddckoocgbaaW.PrintMore
attribute [local go_sem] max2_int min2_int max_two min_two max_three min_three max_four min_four   -- for this text's walks alone
set_option linter.unusedVariables false
set_option linter.unusedSimpArgs false



def errW : Option Int → Value
  | none => .nilIface
  | some c => .iface 0 (.int .i64 c)
theorem errW_none : errW none = .nilIface := rfl
theorem errW_some (c : Int) : errW (some c) = .iface 0 (.int .i64 c) := rfl

theorem info5 : (Try.prog.info? 5).map (fun i => (i.zero, i.size, i.bytes)) = some (some (.int .u8 0), 1, 1) := by kernel_rfl
theorem info9 : (Try.prog.info? 9).map (fun i => (i.zero, i.size, i.bytes)) = some (some (.string ⟨#[]⟩), 1, 16) := by kernel_rfl
-- the values' own types

end Go.Proofs.Ytjaeddckoocgbaa.PFnExactCreasesOf
