-- Printed for this claim by a changed copy of the kit's printing program (wip/tools/patch_print.py); Lean checks it.
import Derived.Test.YtdlljfejfgfmgaaProg
import Derived.Below
import Derived.Deep.Draws
import Derived.Deep.AppendLies
import Derived.Maps.AppendAt
import Derived.OwnWalk
import Derived.Laws.BytesArg
import Derived.Laws.MakeOwn
import Derived.Laws.OwnMore
import Derived.Deep.OwnRows
import Derived.Tactics
import Derived.Lib.ConvBytes
import Derived.Laws.Slices
import Derived.WalkKit
import Derived.KernelRfl
import Derived.RowKit3
import Derived.Deep.LoopGhost
import Derived.Deep.QuietTactic
import Derived.BigQuiet
import Derived.WideLaws
import Derived.Deep.DeepCutAuto
import Derived.Deep.CutBlock
import Derived.Deep.RegionHeld3
import Derived.Laws.Rows
import Derived.Lib.AppendStr
import Derived.ArgAppend
import Derived.Laws.IdiomCopy
import Derived.OrdersHeld
import Derived.Laws.BitsLemmas
import Derived.RowKit
import Derived.Test.YtdlljfejfgfmgaaWWords
import Derived.Test.YtdlljfejfgfmgaaWLast
import Derived.Test.YtdlljfejfgfmgaaWTab
import Derived.Test.YtdlljfejfgfmgaaWFour
import Derived.Test.YtdlljfejfgfmgaaWQPut
import Derived.Test.YtdlljfejfgfmgaaWApart
import Derived.Test.YtdlljfejfgfmgaaWArr
import Derived.Test.YtdlljfejfgfmgaaWZeros
import Derived.Test.YtdlljfejfgfmgaaWFoot
import Derived.Test.YtdlljfejfgfmgaaWKept
import Derived.Test.YtdlljfejfgfmgaaWShare
import Derived.Test.YtdlljfejfgfmgaaWN
import Derived.Test.YtdlljfejfgfmgaaWFootNe
import Derived.Test.YtdlljfejfgfmgaaWAt
import Derived.Test.YtdlljfejfgfmgaaWEqStruct
import Derived.Test.YtdlljfejfgfmgaaWRepsOne
import Derived.Test.YtdlljfejfgfmgaaWInv
import Derived.Test.YtdlljfejfgfmgaaWInvWords
import Derived.Test.YtdlljfejfgfmgaaWGuard
import Derived.Test.YtdlljfejfgfmgaaWNEv
import Derived.Test.YtdlljfejfgfmgaaWMore
namespace Go.Proofs.Ytdlljfejfgfmgaa.PFnPowers
open Go.RowKit Go.Proofs.YtdlljfejfgfmgaaW.PrintWords Go.Proofs.YtdlljfejfgfmgaaW.PrintLast Go.Proofs.YtdlljfejfgfmgaaW.PrintMore
attribute [local go_sem] max2_int min2_int max_two min_two max_three min_three max_four min_four   -- for this text's walks alone
set_option linter.unusedVariables false
set_option linter.unusedSimpArgs false

noncomputable section


def errW : Option Int → Value
  | none => .nilIface
  | some c => .iface 0 (.int .i64 c)
theorem errW_none : errW none = .nilIface := rfl
theorem errW_some (c : Int) : errW (some c) = .iface 0 (.int .i64 c) := rfl

theorem info3 : (Try.prog.info? 3).map (fun i => (i.zero, i.size, i.bytes)) = some (some (.int .i64 0), 1, 8) := by kernel_rfl
-- the values' own types

end
end Go.Proofs.Ytdlljfejfgfmgaa.PFnPowers
