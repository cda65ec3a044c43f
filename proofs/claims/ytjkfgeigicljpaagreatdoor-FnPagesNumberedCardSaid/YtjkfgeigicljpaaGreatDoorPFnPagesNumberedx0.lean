-- WRITTEN BY A PROGRAM OF THIS SESSION (xprint), out of the translation: not trusted: it is checked as any text
import Derived.Test.YtjkfgeigicljpaaGreatDoorProg
import Derived.Below
import Derived.Deep.Draws
import Derived.Deep.AppendLies
import Derived.Maps.AppendAt
import Derived.OwnWalk
import Derived.Laws.BytesArg
import Derived.Laws.MakeOwn
import Derived.Laws.OwnMore
import Derived.Deep.OwnRows
import Derived.Tactics
import Derived.Lib.ConvBytes
import Derived.Laws.Slices
import Derived.WalkKit
import Derived.KernelRfl
import Derived.RowKit3
import Derived.Deep.LoopGhost
import Derived.Deep.QuietTactic
import Derived.BigQuiet
import Derived.WideLaws
import Derived.Deep.DeepCutAuto
import Derived.Deep.CutBlock
import Derived.Deep.RegionHeld3
import Derived.Laws.Rows
import Derived.Lib.AppendStr
import Derived.ArgAppend
import Derived.Laws.IdiomCopy
import Derived.OrdersHeld
import Derived.Laws.BitsLemmas
import Derived.RowKit
import Derived.Test.YtjkfgeigicljpaaGreatDoorShelf
import Derived.Lib.AppendIntMem
import Derived.Test.YtjkfgeigicljpaaGreatDoorWWords
import Derived.Test.YtjkfgeigicljpaaGreatDoorWLast
import Derived.Test.YtjkfgeigicljpaaGreatDoorWTab
import Derived.Test.YtjkfgeigicljpaaGreatDoorWQPut
import Derived.Test.YtjkfgeigicljpaaGreatDoorWApart
import Derived.Test.YtjkfgeigicljpaaGreatDoorWArr
import Derived.Test.YtjkfgeigicljpaaGreatDoorWZeros
import Derived.Test.YtjkfgeigicljpaaGreatDoorWFoot
import Derived.Test.YtjkfgeigicljpaaGreatDoorWKept
import Derived.Test.YtjkfgeigicljpaaGreatDoorWShare
import Derived.Test.YtjkfgeigicljpaaGreatDoorWN
import Derived.Test.YtjkfgeigicljpaaGreatDoorWRepsOne
import Derived.Test.YtjkfgeigicljpaaGreatDoorWGuard
import Derived.Test.YtjkfgeigicljpaaGreatDoorWNEv
import Derived.Test.YtjkfgeigicljpaaGreatDoorWMore
namespace Go.Proofs.YtjkfgeigicljpaaGreatDoor.PFnPagesNumbered
open Go.RowKit Go.Proofs.YtjkfgeigicljpaaGreatDoorW.PrintWords Go.Proofs.YtjkfgeigicljpaaGreatDoorW.PrintLast Go.Proofs.YtjkfgeigicljpaaGreatDoorW.PrintMore
attribute [local go_sem] max2_int min2_int max_two min_two max_three min_three max_four min_four
-- short names
theorem Xa : type_of% @pw_below_drewN := @pw_below_drewN
theorem Xb : type_of% @below_drew1 := @below_drew1
theorem Xc : type_of% @below_alloc := @below_alloc
theorem Xd : type_of% @below_step := @below_step
theorem Xe : type_of% @below_set := @below_set
theorem Xf : type_of% @below_size := @below_size
theorem Xg : type_of% @Kd.R_alloc := @Kd.R_alloc
theorem Xh : type_of% @Kd.R_drewN := @Kd.R_drewN
theorem Xi : type_of% @Kd.R_drew := @Kd.R_drew
theorem Xj : type_of% @Kd.C_alloc := @Kd.C_alloc
theorem Xk : type_of% @Kd.C_drewN := @Kd.C_drewN
theorem Xl : type_of% @Kd.C_drew := @Kd.C_drew
theorem Xm : type_of% @List.setIfInBounds_toArray := @List.setIfInBounds_toArray
theorem Xn : type_of% @List.set_cons_zero := @List.set_cons_zero
theorem Xo : type_of% @List.set_cons_succ := @List.set_cons_succ
theorem Xp : type_of% @List.map_toArray := @List.map_toArray
theorem Xq : type_of% @List.map_cons := @List.map_cons
theorem Xr : type_of% @List.map_nil := @List.map_nil
theorem Xs : type_of% @Option.bind_eq_some_iff := @Option.bind_eq_some_iff
theorem Xt : type_of% @World.block_lt_of_cell? := @World.block_lt_of_cell?
theorem Xu : type_of% @KeepBut.set_ := @KeepBut.set_
theorem Xv : type_of% @keep_drewN := @keep_drewN
theorem Xw : type_of% @keep_alloc := @keep_alloc
theorem Xx : type_of% @Kd.R_below := @Kd.R_below
theorem Xy : type_of% @Kd.R_elder' := @Kd.R_elder'
theorem Xz : type_of% @of_decide_eq_true := @of_decide_eq_true
set_option linter.unusedVariables false
set_option linter.unusedSimpArgs false



def errW : Option Int → Value
 | none => .nilIface
 | some c => .iface 0 (.int .i64 c)
theorem errW_none : errW none = .nilIface := rfl
theorem errW_some (c : Int) : errW (some c) = .iface 0 (.int .i64 c) := rfl

theorem info3 : (Tryz.prog.info? 3).map (fun i => (i.zero, i.size, i.bytes)) = some (some (.int .i64 0), 1, 8) := by kernel_rfl
theorem info5 : (Tryz.prog.info? 5).map (fun i => (i.zero, i.size, i.bytes)) = some (some (.int .u8 0), 1, 1) := by kernel_rfl
theorem info9 : (Tryz.prog.info? 9).map (fun i => (i.zero, i.size, i.bytes)) = some (some (.string ⟨#[]⟩), 1, 16) := by kernel_rfl
-- the values' own types

end Go.Proofs.YtjkfgeigicljpaaGreatDoor.PFnPagesNumbered
