-- Printed for this claim by a changed copy of the kit's printing program (wip/tools/patch_print.py); Lean checks it.
import Derived.Test.YtgoedenbekedbaaDoorProg
import Derived.Below
import Derived.Deep.Draws
import Derived.Deep.AppendLies
import Derived.Maps.AppendAt
import Derived.OwnWalk
import Derived.Laws.BytesArg
import Derived.Laws.MakeOwn
import Derived.Laws.OwnMore
import Derived.Deep.OwnRows
import Derived.Tactics
import Derived.Lib.ConvBytes
import Derived.Laws.Slices
import Derived.WalkKit
import Derived.KernelRfl
import Derived.RowKit3
import Derived.Deep.LoopGhost
import Derived.Deep.QuietTactic
import Derived.BigQuiet
import Derived.WideLaws
import Derived.Deep.DeepCutAuto
import Derived.Deep.CutBlock
import Derived.Deep.RegionHeld3
import Derived.Laws.Rows
import Derived.Lib.AppendStr
import Derived.ArgAppend
import Derived.Laws.IdiomCopy
import Derived.OrdersHeld
import Derived.Laws.BitsLemmas
import Derived.RowKit
import Derived.Test.YtgoedenbekedbaaDoorWWords
import Derived.Test.YtgoedenbekedbaaDoorWLast
import Derived.Test.YtgoedenbekedbaaDoorWTab
import Derived.Test.YtgoedenbekedbaaDoorWFour
import Derived.Test.YtgoedenbekedbaaDoorWQPut
import Derived.Test.YtgoedenbekedbaaDoorWApart
import Derived.Test.YtgoedenbekedbaaDoorWArr
import Derived.Test.YtgoedenbekedbaaDoorWZeros
import Derived.Test.YtgoedenbekedbaaDoorWFoot
import Derived.Test.YtgoedenbekedbaaDoorWKept
import Derived.Test.YtgoedenbekedbaaDoorWShare
import Derived.Test.YtgoedenbekedbaaDoorWN
import Derived.Test.YtgoedenbekedbaaDoorWFootNe
import Derived.Test.YtgoedenbekedbaaDoorWAt
import Derived.Test.YtgoedenbekedbaaDoorWEqStruct
import Derived.Test.YtgoedenbekedbaaDoorWRepsOne
import Derived.Test.YtgoedenbekedbaaDoorWInv
import Derived.Test.YtgoedenbekedbaaDoorWInvWords
import Derived.Test.YtgoedenbekedbaaDoorWGuard
import Derived.Test.YtgoedenbekedbaaDoorWNEv
import Derived.Test.YtgoedenbekedbaaDoorWMore
import Derived.Test.YtgoedenbekedbaaDoorBld
import Derived.Test.YtgoedenbekedbaaDoorShelf
import Derived.Test.YtgoedenbekedbaaDoorShelfS
import Derived.Test.YtgoedenbekedbaaDoorTabsS
import Derived.Lib.ConvBytes
import Derived.Lib.Hide
import Derived.Laws.Strings3
import Derived.Laws.Closers25
import Derived.Laws.Closers25b
import Derived.BigCall
import Derived.BigGuard
namespace Go.Proofs.YtgoedenbekedbaaDoor.PFnSigns
open Go.RowKit Go.Proofs.YtgoedenbekedbaaDoorW.PrintWords Go.Proofs.YtgoedenbekedbaaDoorW.PrintLast Go.Proofs.YtgoedenbekedbaaDoorW.PrintMore
attribute [local go_sem] max2_int min2_int max_two min_two max_three min_three max_four min_four   -- for this text's walks alone
set_option linter.unusedVariables false
set_option linter.unusedSimpArgs false

noncomputable section


def errW : Option Int → Value
  | none => .nilIface
  | some c => .iface 0 (.int .i64 c)
theorem errW_none : errW none = .nilIface := rfl
theorem errW_some (c : Int) : errW (some c) = .iface 0 (.int .i64 c) := rfl

theorem info3 : (Tryd.prog.info? 3).map (fun i => (i.zero, i.size, i.bytes)) = some (some (.int .i64 0), 1, 8) := by kernel_rfl
theorem info5 : (Tryd.prog.info? 5).map (fun i => (i.zero, i.size, i.bytes)) = some (some (.int .u8 0), 1, 1) := by kernel_rfl
-- the values' own types

end
end Go.Proofs.YtgoedenbekedbaaDoor.PFnSigns
