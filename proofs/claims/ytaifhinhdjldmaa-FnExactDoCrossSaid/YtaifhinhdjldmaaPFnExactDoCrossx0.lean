-- Written for this claim by a program of this session (wip/tools/xprint.py over the kit's printer).
import Derived.Test.YtaifhinhdjldmaaProg
import Derived.Below
import Derived.Deep.Draws
import Derived.Deep.AppendLies
import Derived.Maps.AppendAt
import Derived.OwnWalk
import Derived.Laws.BytesArg
import Derived.Laws.MakeOwn
import Derived.Laws.OwnMore
import Derived.Deep.OwnRows
import Derived.Tactics
import Derived.Lib.ConvBytes
import Derived.Laws.Slices
import Derived.WalkKit
import Derived.KernelRfl
import Derived.RowKit3
import Derived.Deep.LoopGhost
import Derived.Deep.QuietTactic
import Derived.BigQuiet
import Derived.WideLaws
import Derived.Deep.DeepCutAuto
import Derived.Deep.CutBlock
import Derived.Deep.RegionHeld3
import Derived.Laws.Rows
import Derived.Lib.AppendStr
import Derived.ArgAppend
import Derived.Laws.IdiomCopy
import Derived.OrdersHeld
import Derived.Laws.BitsLemmas
import Derived.RowKit
import Derived.Test.YtaifhinhdjldmaaWWords
import Derived.Test.YtaifhinhdjldmaaWLast
import Derived.Test.YtaifhinhdjldmaaWTab
import Derived.Test.YtaifhinhdjldmaaWFour
import Derived.Test.YtaifhinhdjldmaaWQPut
import Derived.Test.YtaifhinhdjldmaaWApart
import Derived.Test.YtaifhinhdjldmaaWArr
import Derived.Test.YtaifhinhdjldmaaWZeros
import Derived.Test.YtaifhinhdjldmaaWFoot
import Derived.Test.YtaifhinhdjldmaaWKept
import Derived.Test.YtaifhinhdjldmaaWShare
import Derived.Test.YtaifhinhdjldmaaWN
import Derived.Test.YtaifhinhdjldmaaWFootNe
import Derived.Test.YtaifhinhdjldmaaWAt
import Derived.Test.YtaifhinhdjldmaaWEqStruct
import Derived.Test.YtaifhinhdjldmaaWRepsOne
import Derived.Test.YtaifhinhdjldmaaWInv
import Derived.Test.YtaifhinhdjldmaaWInvWords
import Derived.Test.YtaifhinhdjldmaaWGuard
import Derived.Test.YtaifhinhdjldmaaWNEv
import Derived.Test.YtaifhinhdjldmaaWMore
namespace Go.Proofs.Ytaifhinhdjldmaa.PFnExactDoCross
open Go.RowKit Go.Proofs.YtaifhinhdjldmaaW.PrintWords Go.Proofs.YtaifhinhdjldmaaW.PrintLast Go.Proofs.YtaifhinhdjldmaaW.PrintMore
attribute [local go_sem] max2_int min2_int max_two min_two max_three min_three max_four min_four   -- for this text's walks alone
set_option linter.unusedVariables false
set_option linter.unusedSimpArgs false



def errW : Option Int → Value
  | none => .nilIface
  | some c => .iface 0 (.int .i64 c)
theorem errW_none : errW none = .nilIface := rfl
theorem errW_some (c : Int) : errW (some c) = .iface 0 (.int .i64 c) := rfl

-- the values' own types


end Go.Proofs.Ytaifhinhdjldmaa.PFnExactDoCross
