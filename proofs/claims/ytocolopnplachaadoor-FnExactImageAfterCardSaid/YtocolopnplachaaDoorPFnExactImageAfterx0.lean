-- Written by xprint.py, a program of this session, for this seat; Lean checks it.
import Derived.Test.YtocolopnplachaaDoorProg
import Derived.Below
import Derived.Deep.Draws
import Derived.Deep.AppendLies
import Derived.Maps.AppendAt
import Derived.OwnWalk
import Derived.Laws.BytesArg
import Derived.Laws.MakeOwn
import Derived.Laws.OwnMore
import Derived.Deep.OwnRows
import Derived.Tactics
import Derived.Lib.ConvBytes
import Derived.Laws.Slices
import Derived.WalkKit
import Derived.KernelRfl
import Derived.RowKit3
import Derived.Deep.LoopGhost
import Derived.Deep.QuietTactic
import Derived.BigQuiet
import Derived.WideLaws
import Derived.Deep.DeepCutAuto
import Derived.Deep.CutBlock
import Derived.Deep.RegionHeld3
import Derived.Laws.Rows
import Derived.Lib.AppendStr
import Derived.ArgAppend
import Derived.Laws.IdiomCopy
import Derived.OrdersHeld
import Derived.Laws.BitsLemmas
import Derived.RowKit
import Derived.Test.YtocolopnplachaaDoorShelfIw
import Derived.Shelf.Strings.SlTrimAscii
import Derived.Test.YtocolopnplachaaDoorWWords
import Derived.Test.YtocolopnplachaaDoorWLast
import Derived.Test.YtocolopnplachaaDoorWTab
import Derived.Test.YtocolopnplachaaDoorWFour
import Derived.Test.YtocolopnplachaaDoorWQPut
import Derived.Test.YtocolopnplachaaDoorWApart
import Derived.Test.YtocolopnplachaaDoorWArr
import Derived.Test.YtocolopnplachaaDoorWZeros
import Derived.Test.YtocolopnplachaaDoorWFoot
import Derived.Test.YtocolopnplachaaDoorWKept
import Derived.Test.YtocolopnplachaaDoorWShare
import Derived.Test.YtocolopnplachaaDoorWN
import Derived.Test.YtocolopnplachaaDoorWFootNe
import Derived.Test.YtocolopnplachaaDoorWAt
import Derived.Test.YtocolopnplachaaDoorWEqStruct
import Derived.Test.YtocolopnplachaaDoorWRepsOne
import Derived.Test.YtocolopnplachaaDoorWInv
import Derived.Test.YtocolopnplachaaDoorWInvWords
import Derived.Test.YtocolopnplachaaDoorWGuard
import Derived.Test.YtocolopnplachaaDoorWNEv
import Derived.Test.YtocolopnplachaaDoorWMore
namespace Go.Proofs.YtocolopnplachaaDoor.PFnExactImageAfter
open Go.RowKit Go.Proofs.YtocolopnplachaaDoorW.PrintWords Go.Proofs.YtocolopnplachaaDoorW.PrintLast Go.Proofs.YtocolopnplachaaDoorW.PrintMore
attribute [local go_sem] max2_int min2_int max_two min_two max_three min_three max_four min_four   -- for this text's walks alone
set_option linter.unusedVariables false
set_option linter.unusedSimpArgs false



def errW : Option Int → Value
  | none => .nilIface
  | some c => .iface 0 (.int .i64 c)
theorem errW_none : errW none = .nilIface := rfl
theorem errW_some (c : Int) : errW (some c) = .iface 0 (.int .i64 c) := rfl

-- the values' own types

end Go.Proofs.YtocolopnplachaaDoor.PFnExactImageAfter
