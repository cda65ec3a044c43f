-- WRITTEN BY A PROGRAM OF THIS SESSION (xprint), out of the translation: not trusted: it is checked as any text
import Derived.Test.YtjkfgeigicljpaaProg
import Derived.Below
import Derived.Deep.Draws
import Derived.Deep.AppendLies
import Derived.Maps.AppendAt
import Derived.OwnWalk
import Derived.Laws.BytesArg
import Derived.Laws.MakeOwn
import Derived.Laws.OwnMore
import Derived.Deep.OwnRows
import Derived.Tactics
import Derived.Lib.ConvBytes
import Derived.Laws.Slices
import Derived.WalkKit
import Derived.KernelRfl
import Derived.RowKit3
import Derived.Deep.LoopGhost
import Derived.Deep.QuietTactic
import Derived.BigQuiet
import Derived.WideLaws
import Derived.Deep.DeepCutAuto
import Derived.Deep.CutBlock
import Derived.Deep.RegionHeld3
import Derived.Laws.Rows
import Derived.Lib.AppendStr
import Derived.ArgAppend
import Derived.Laws.IdiomCopy
import Derived.OrdersHeld
import Derived.Laws.BitsLemmas
import Derived.RowKit
import Derived.Test.YtjkfgeigicljpaaWWords
import Derived.Test.YtjkfgeigicljpaaWLast
import Derived.Test.YtjkfgeigicljpaaWTab
import Derived.Test.YtjkfgeigicljpaaWFour
import Derived.Test.YtjkfgeigicljpaaWQPut
import Derived.Test.YtjkfgeigicljpaaWApart
import Derived.Test.YtjkfgeigicljpaaWArr
import Derived.Test.YtjkfgeigicljpaaWZeros
import Derived.Test.YtjkfgeigicljpaaWFoot
import Derived.Test.YtjkfgeigicljpaaWKept
import Derived.Test.YtjkfgeigicljpaaWShare
import Derived.Test.YtjkfgeigicljpaaWN
import Derived.Test.YtjkfgeigicljpaaWFootNe
import Derived.Test.YtjkfgeigicljpaaWAt
import Derived.Test.YtjkfgeigicljpaaWEqStruct
import Derived.Test.YtjkfgeigicljpaaWRepsOne
import Derived.Test.YtjkfgeigicljpaaWInv
import Derived.Test.YtjkfgeigicljpaaWInvWords
import Derived.Test.YtjkfgeigicljpaaWGuard
import Derived.Test.YtjkfgeigicljpaaWNEv
import Derived.Test.YtjkfgeigicljpaaWMore
namespace Go.Proofs.Ytjkfgeigicljpaa.PFnLeavesTorn
open Go.RowKit Go.Proofs.YtjkfgeigicljpaaW.PrintWords Go.Proofs.YtjkfgeigicljpaaW.PrintLast Go.Proofs.YtjkfgeigicljpaaW.PrintMore
attribute [local go_sem] max2_int min2_int max_two min_two max_three min_three max_four min_four   -- for this text's walks alone
set_option linter.unusedVariables false
set_option linter.unusedSimpArgs false



def errW : Option Int → Value
  | none => .nilIface
  | some c => .iface 0 (.int .i64 c)
theorem errW_none : errW none = .nilIface := rfl
theorem errW_some (c : Int) : errW (some c) = .iface 0 (.int .i64 c) := rfl

theorem info3 : (Try.prog.info? 3).map (fun i => (i.zero, i.size, i.bytes)) = some (some (.int .i64 0), 1, 8) := by kernel_rfl
-- the values' own types

end Go.Proofs.Ytjkfgeigicljpaa.PFnLeavesTorn
