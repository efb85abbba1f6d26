-- Printed for this claim by a changed copy of the kit's printing program (wip/tools/patch_print.py); Lean checks it.
import Derived.Test.YtanebapjclkikaaProg
import Derived.Below
import Derived.Deep.Draws
import Derived.Deep.AppendLies
import Derived.Maps.AppendAt
import Derived.OwnWalk
import Derived.Laws.BytesArg
import Derived.Laws.MakeOwn
import Derived.Laws.OwnMore
import Derived.Deep.OwnRows
import Derived.Tactics
import Derived.Lib.ConvBytes
import Derived.Laws.Slices
import Derived.WalkKit
import Derived.KernelRfl
import Derived.RowKit3
import Derived.Deep.LoopGhost
import Derived.Deep.QuietTactic
import Derived.BigQuiet
import Derived.WideLaws
import Derived.Deep.DeepCutAuto
import Derived.Deep.CutBlock
import Derived.Deep.RegionHeld3
import Derived.Laws.Rows
import Derived.Lib.AppendStr
import Derived.ArgAppend
import Derived.Laws.IdiomCopy
import Derived.OrdersHeld
import Derived.Laws.BitsLemmas
import Derived.RowKit
import Derived.Test.YtanebapjclkikaaWWords
import Derived.Test.YtanebapjclkikaaWLast
import Derived.Test.YtanebapjclkikaaWTab
import Derived.Test.YtanebapjclkikaaWFour
import Derived.Test.YtanebapjclkikaaWQPut
import Derived.Test.YtanebapjclkikaaWApart
import Derived.Test.YtanebapjclkikaaWArr
import Derived.Test.YtanebapjclkikaaWZeros
import Derived.Test.YtanebapjclkikaaWFoot
import Derived.Test.YtanebapjclkikaaWKept
import Derived.Test.YtanebapjclkikaaWShare
import Derived.Test.YtanebapjclkikaaWN
import Derived.Test.YtanebapjclkikaaWFootNe
import Derived.Test.YtanebapjclkikaaWAt
import Derived.Test.YtanebapjclkikaaWEqStruct
import Derived.Test.YtanebapjclkikaaWRepsOne
import Derived.Test.YtanebapjclkikaaWInv
import Derived.Test.YtanebapjclkikaaWInvWords
import Derived.Test.YtanebapjclkikaaWGuard
import Derived.Test.YtanebapjclkikaaWNEv
import Derived.Test.YtanebapjclkikaaWMore
import Derived.Test.YtanebapjclkikaaShelf
namespace Go.Proofs.Ytanebapjclkikaa.PFnExactMessageOf
open Go.RowKit Go.Proofs.YtanebapjclkikaaW.PrintWords Go.Proofs.YtanebapjclkikaaW.PrintLast Go.Proofs.YtanebapjclkikaaW.PrintMore
attribute [local go_sem] max2_int min2_int max_two min_two max_three min_three max_four min_four   -- for this text's walks alone
set_option linter.unusedVariables false
set_option linter.unusedSimpArgs false



def errW : Option Int → Value
  | none => .nilIface
  | some c => .iface 0 (.int .i64 c)
theorem errW_none : errW none = .nilIface := rfl
theorem errW_some (c : Int) : errW (some c) = .iface 0 (.int .i64 c) := rfl

-- the values' own types

end Go.Proofs.Ytanebapjclkikaa.PFnExactMessageOf
