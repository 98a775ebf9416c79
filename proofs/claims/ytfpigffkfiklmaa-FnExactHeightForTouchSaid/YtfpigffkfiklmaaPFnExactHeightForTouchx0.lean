-- Written by xprint.py, a program of this session, for this seat; Lean checks it.
import Derived.Test.YtfpigffkfiklmaaProg
import Derived.Below
import Derived.Deep.Draws
import Derived.Deep.AppendLies
import Derived.Maps.AppendAt
import Derived.OwnWalk
import Derived.Laws.BytesArg
import Derived.Laws.MakeOwn
import Derived.Laws.OwnMore
import Derived.Deep.OwnRows
import Derived.Tactics
import Derived.Lib.ConvBytes
import Derived.Laws.Slices
import Derived.WalkKit
import Derived.KernelRfl
import Derived.RowKit3
import Derived.Deep.LoopGhost
import Derived.Deep.QuietTactic
import Derived.BigQuiet
import Derived.WideLaws
import Derived.Deep.DeepCutAuto
import Derived.Deep.CutBlock
import Derived.Deep.RegionHeld3
import Derived.Laws.Rows
import Derived.Lib.AppendStr
import Derived.ArgAppend
import Derived.Laws.IdiomCopy
import Derived.OrdersHeld
import Derived.Laws.BitsLemmas
import Derived.RowKit
import Derived.Test.YtfpigffkfiklmaaWWords
import Derived.Test.YtfpigffkfiklmaaWLast
import Derived.Test.YtfpigffkfiklmaaWTab
import Derived.Test.YtfpigffkfiklmaaWFour
import Derived.Test.YtfpigffkfiklmaaWQPut
import Derived.Test.YtfpigffkfiklmaaWApart
import Derived.Test.YtfpigffkfiklmaaWArr
import Derived.Test.YtfpigffkfiklmaaWZeros
import Derived.Test.YtfpigffkfiklmaaWFoot
import Derived.Test.YtfpigffkfiklmaaWKept
import Derived.Test.YtfpigffkfiklmaaWShare
import Derived.Test.YtfpigffkfiklmaaWN
import Derived.Test.YtfpigffkfiklmaaWFootNe
import Derived.Test.YtfpigffkfiklmaaWAt
import Derived.Test.YtfpigffkfiklmaaWEqStruct
import Derived.Test.YtfpigffkfiklmaaWRepsOne
import Derived.Test.YtfpigffkfiklmaaWInv
import Derived.Test.YtfpigffkfiklmaaWInvWords
import Derived.Test.YtfpigffkfiklmaaWGuard
import Derived.Test.YtfpigffkfiklmaaWNEv
import Derived.Test.YtfpigffkfiklmaaWMore
namespace Go.Proofs.Ytfpigffkfiklmaa.PFnExactHeightForTouch
open Go.RowKit Go.Proofs.YtfpigffkfiklmaaW.PrintWords Go.Proofs.YtfpigffkfiklmaaW.PrintLast Go.Proofs.YtfpigffkfiklmaaW.PrintMore
attribute [local go_sem] max2_int min2_int max_two min_two max_three min_three max_four min_four   -- for this text's walks alone
set_option linter.unusedVariables false
set_option linter.unusedSimpArgs false



def errW : Option Int → Value
  | none => .nilIface
  | some c => .iface 0 (.int .i64 c)
theorem errW_none : errW none = .nilIface := rfl
theorem errW_some (c : Int) : errW (some c) = .iface 0 (.int .i64 c) := rfl

-- the values' own types

end Go.Proofs.Ytfpigffkfiklmaa.PFnExactHeightForTouch
