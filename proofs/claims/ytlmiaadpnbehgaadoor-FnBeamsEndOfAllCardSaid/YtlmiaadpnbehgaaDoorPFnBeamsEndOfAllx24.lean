-- Written by split3.py: the law's walk, all parts joined.
import Derived.Test.YtlmiaadpnbehgaaDoorVM
import Derived.Test.YtlmiaadpnbehgaaDoorVF
import Derived.Test.YtlmiaadpnbehgaaDoorVS
import Derived.Test.YtlmiaadpnbehgaaDoorPFnBeamsEndOfAllx0
import Derived.Test.YtlmiaadpnbehgaaDoorPFnBeamsEndOfAllx1
import Derived.Test.YtlmiaadpnbehgaaDoorPFnBeamsEndOfAllx2
import Derived.Test.YtlmiaadpnbehgaaDoorPFnBeamsEndOfAllx3
import Derived.Test.YtlmiaadpnbehgaaDoorPFnBeamsEndOfAllx6
import Derived.Test.YtlmiaadpnbehgaaDoorPFnBeamsEndOfAllx10
import Derived.Test.YtlmiaadpnbehgaaDoorPFnBeamsEndOfAllx11
import Derived.Test.YtlmiaadpnbehgaaDoorPFnBeamsEndOfAllx12
import Derived.Test.YtlmiaadpnbehgaaDoorPFnBeamsEndOfAllx13
import Derived.Test.YtlmiaadpnbehgaaDoorPFnBeamsEndOfAllx14
import Derived.Test.YtlmiaadpnbehgaaDoorPFnBeamsEndOfAllx15
import Derived.Test.YtlmiaadpnbehgaaDoorPFnBeamsEndOfAllx17
import Derived.Test.YtlmiaadpnbehgaaDoorPFnBeamsEndOfAllx18
import Derived.Test.YtlmiaadpnbehgaaDoorPFnBeamsEndOfAllx20
import Derived.Test.YtlmiaadpnbehgaaDoorPFnBeamsEndOfAllx21
import Derived.Test.YtlmiaadpnbehgaaDoorPFnBeamsEndOfAllx22
import Derived.Test.YtlmiaadpnbehgaaDoorPFnBeamsEndOfAllx23
namespace Go.Proofs.YtlmiaadpnbehgaaDoor.PFnBeamsEndOfAll
open Go.Proofs.YtlmiaadpnbehgaaDoorV Go.RowKit Go.Proofs.YtlmiaadpnbehgaaDoorW.PrintWords Go.Proofs.YtlmiaadpnbehgaaDoorW.PrintLast Go.Proofs.YtlmiaadpnbehgaaDoorW.PrintMore
attribute [local go_sem] max2_int min2_int max_two min_two max_three min_three max_four min_four   -- for this text's walks alone
attribute [local go_sem ↓] rdl_zero rdl_succ eval_lit
set_option linter.unusedVariables false
set_option linter.unusedSimpArgs false
attribute [local go_sem high] eqA23 eqA25
/-- THE ONE PURE STATEMENT of laws_FnBeamsEndOfAll: yours. -/
theorem laws_FnBeamsEndOfAll.walk (P : laws_FnBeamsEndOfAll.Pure) (a0_0 : Int) (a0_1 : Int) (a1_0 : Int) (a1_1 : Int) (a1_2 : Bool) (a1_3 : Bool) (a2_0 : Int) (a2_1 : Int) (a3 : Int) (a4 : ByteArray) (w : World) (w0_0 : (Lit.int .i64 a0_0).wf = true) (w0_1 : (Lit.int .i64 a0_1).wf = true) (w1_0 : (Lit.int .i64 a1_0).wf = true) (w1_1 : (Lit.int .i64 a1_1).wf = true) (w2_0 : (Lit.int .i64 a2_0).wf = true) (w2_1 : (Lit.int .i64 a2_1).wf = true) (w3 : (Lit.int .i64 a3).wf = true) (w4 : a4.size ≤ 140737488351232) (hw_ : PtW w) :
    Calls Tryd.prog 3 #[.agg #[.int .i64 a0_0, .int .i64 a0_1], .agg #[.int .i64 a1_0, .int .i64 a1_1, .bool a1_2, .bool a1_3], .agg #[.int .i64 a2_0, .int .i64 a2_1], .int .i64 a3, .string a4] w fun e w' => e = .returned (.bool true) ∧ Below w.heap.size w w' := by
  obtain ⟨k, h⟩ := P a0_0 a0_1 a1_0 a1_1 a1_2 a1_3 a2_0 a2_1 a3 a4 w0_0 w0_1 w1_0 w1_1 w2_0 w2_1 w3 w4
  refine (laws_FnBeamsEndOfAll.calls0 (laws_FnBeamsEndOfAll.rest1 (laws_FnBeamsEndOfAll.rest2 laws_FnBeamsEndOfAll.rest3)) k a0_0 a0_1 a1_0 a1_1 a1_2 a1_3 a2_0 a2_1 a3 a4 true w h rfl hw_).mono ?_
  rintro e w' ⟨rfl, hd⟩
  exact ⟨rfl, hd⟩
end Go.Proofs.YtlmiaadpnbehgaaDoor.PFnBeamsEndOfAll

