-- Written by xprint.py, a program of this session, for this seat; Lean checks it.
import Derived.Test.YtjlggfcnpimpgaaDoorProg
import Derived.Below
import Derived.Deep.Draws
import Derived.Deep.AppendLies
import Derived.Maps.AppendAt
import Derived.OwnWalk
import Derived.Laws.BytesArg
import Derived.Laws.MakeOwn
import Derived.Laws.OwnMore
import Derived.Deep.OwnRows
import Derived.Tactics
import Derived.Lib.ConvBytes
import Derived.Laws.Slices
import Derived.WalkKit
import Derived.KernelRfl
import Derived.RowKit3
import Derived.Deep.LoopGhost
import Derived.Deep.QuietTactic
import Derived.BigQuiet
import Derived.WideLaws
import Derived.Deep.DeepCutAuto
import Derived.Deep.CutBlock
import Derived.Deep.RegionHeld3
import Derived.Laws.Rows
import Derived.Lib.AppendStr
import Derived.ArgAppend
import Derived.Laws.IdiomCopy
import Derived.OrdersHeld
import Derived.Laws.BitsLemmas
import Derived.RowKit
import Derived.Test.YtjlggfcnpimpgaaDoorShelfPt
import Derived.Lib.LaidTab
import Derived.Lib.AppendIntMem
import Derived.Lib.SmallJoins
import Derived.Test.YtjlggfcnpimpgaaDoorWWords
import Derived.Test.YtjlggfcnpimpgaaDoorWLast
import Derived.Test.YtjlggfcnpimpgaaDoorWTab
import Derived.Test.YtjlggfcnpimpgaaDoorWFour
import Derived.Test.YtjlggfcnpimpgaaDoorWQPut
import Derived.Test.YtjlggfcnpimpgaaDoorWApart
import Derived.Test.YtjlggfcnpimpgaaDoorWArr
import Derived.Test.YtjlggfcnpimpgaaDoorWZeros
import Derived.Test.YtjlggfcnpimpgaaDoorWFoot
import Derived.Test.YtjlggfcnpimpgaaDoorWKept
import Derived.Test.YtjlggfcnpimpgaaDoorWShare
import Derived.Test.YtjlggfcnpimpgaaDoorWN
import Derived.Test.YtjlggfcnpimpgaaDoorWFootNe
import Derived.Test.YtjlggfcnpimpgaaDoorWAt
import Derived.Test.YtjlggfcnpimpgaaDoorWEqStruct
import Derived.Test.YtjlggfcnpimpgaaDoorWRepsOne
import Derived.Test.YtjlggfcnpimpgaaDoorWInv
import Derived.Test.YtjlggfcnpimpgaaDoorWInvWords
import Derived.Test.YtjlggfcnpimpgaaDoorWGuard
import Derived.Test.YtjlggfcnpimpgaaDoorWNEv
import Derived.Test.YtjlggfcnpimpgaaDoorWMore
namespace Go.Proofs.YtjlggfcnpimpgaaDoor.PFnExactParseTable
open Go.RowKit Go.Proofs.YtjlggfcnpimpgaaDoorW.PrintWords Go.Proofs.YtjlggfcnpimpgaaDoorW.PrintLast Go.Proofs.YtjlggfcnpimpgaaDoorW.PrintMore
attribute [local go_sem] max2_int min2_int max_two min_two max_three min_three max_four min_four   -- for this text's walks alone
set_option linter.unusedVariables false
set_option linter.unusedSimpArgs false



def errW : Option Int → Value
  | none => .nilIface
  | some c => .iface 0 (.int .i64 c)
theorem errW_none : errW none = .nilIface := rfl
theorem errW_some (c : Int) : errW (some c) = .iface 0 (.int .i64 c) := rfl

theorem info5 : (Tryd.prog.info? 5).map (fun i => (i.zero, i.size, i.bytes)) = some (some (.int .u8 0), 1, 1) := by kernel_rfl
theorem info9 : (Tryd.prog.info? 9).map (fun i => (i.zero, i.size, i.bytes)) = some (some (.string ⟨#[]⟩), 1, 16) := by kernel_rfl
-- the values' own types

end Go.Proofs.YtjlggfcnpimpgaaDoor.PFnExactParseTable
