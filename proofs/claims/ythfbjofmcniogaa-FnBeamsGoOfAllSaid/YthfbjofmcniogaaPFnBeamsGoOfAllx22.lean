-- Written by split3.py: the law's walk, all parts joined.
import Derived.Test.YthfbjofmcniogaaVM
import Derived.Test.YthfbjofmcniogaaVF
import Derived.Test.YthfbjofmcniogaaPFnBeamsGoOfAllx0
import Derived.Test.YthfbjofmcniogaaPFnBeamsGoOfAllx1
import Derived.Test.YthfbjofmcniogaaPFnBeamsGoOfAllx6
import Derived.Test.YthfbjofmcniogaaPFnBeamsGoOfAllx9
import Derived.Test.YthfbjofmcniogaaPFnBeamsGoOfAllx10
import Derived.Test.YthfbjofmcniogaaPFnBeamsGoOfAllx11
import Derived.Test.YthfbjofmcniogaaPFnBeamsGoOfAllx12
import Derived.Test.YthfbjofmcniogaaPFnBeamsGoOfAllx13
import Derived.Test.YthfbjofmcniogaaPFnBeamsGoOfAllx14
import Derived.Test.YthfbjofmcniogaaPFnBeamsGoOfAllx15
import Derived.Test.YthfbjofmcniogaaPFnBeamsGoOfAllx16
import Derived.Test.YthfbjofmcniogaaPFnBeamsGoOfAllx17
import Derived.Test.YthfbjofmcniogaaPFnBeamsGoOfAllx19
import Derived.Test.YthfbjofmcniogaaPFnBeamsGoOfAllx20
import Derived.Test.YthfbjofmcniogaaPFnBeamsGoOfAllx21
namespace Go.Proofs.Ythfbjofmcniogaa.PFnBeamsGoOfAll
open Go.Proofs.YthfbjofmcniogaaV Go.RowKit Go.Proofs.YthfbjofmcniogaaW.PrintWords Go.Proofs.YthfbjofmcniogaaW.PrintLast Go.Proofs.YthfbjofmcniogaaW.PrintMore
attribute [local go_sem] max2_int min2_int max_two min_two max_three min_three max_four min_four   -- for this text's walks alone
attribute [local go_sem ↓] rdl_zero rdl_succ eval_lit
set_option linter.unusedVariables false
set_option linter.unusedSimpArgs false
attribute [local go_sem high] eqA30
/-- THE ONE PURE STATEMENT of laws_FnBeamsGoOfAll: yours. -/
theorem laws_FnBeamsGoOfAll.walk (P : laws_FnBeamsGoOfAll.Pure) (a0_0 : Int) (a0_1 : Int) (a1_0 : Int) (a1_1 : Int) (a1_2 : Bool) (a1_3 : Bool) (a2 : Int) (a3_0 : Int) (a3_1 : Int) (a4_0 : Int) (a4_1 : Int) (a4_2 : Bool) (a4_3 : Bool) (a5 : Int) (a6 : Int) (a7_0 : Int) (a7_1 : Int) (a8_0 : Int) (a8_1 : Int) (a8_2 : Bool) (a8_3 : Bool) (a9 : Int) (w : World) (w0_0 : (Lit.int .i64 a0_0).wf = true) (w0_1 : (Lit.int .i64 a0_1).wf = true) (w1_0 : (Lit.int .i64 a1_0).wf = true) (w1_1 : (Lit.int .i64 a1_1).wf = true) (w2 : (Lit.int .i64 a2).wf = true) (w3_0 : (Lit.int .i64 a3_0).wf = true) (w3_1 : (Lit.int .i64 a3_1).wf = true) (w4_0 : (Lit.int .i64 a4_0).wf = true) (w4_1 : (Lit.int .i64 a4_1).wf = true) (w5 : (Lit.int .i64 a5).wf = true) (w6 : (Lit.int .i64 a6).wf = true) (w7_0 : (Lit.int .i64 a7_0).wf = true) (w7_1 : (Lit.int .i64 a7_1).wf = true) (w8_0 : (Lit.int .i64 a8_0).wf = true) (w8_1 : (Lit.int .i64 a8_1).wf = true) (w9 : (Lit.int .i64 a9).wf = true) :
    Calls Try.prog 5 #[.agg #[.int .i64 a0_0, .int .i64 a0_1], .agg #[.int .i64 a1_0, .int .i64 a1_1, .bool a1_2, .bool a1_3], .int .i64 a2, .agg #[.int .i64 a3_0, .int .i64 a3_1], .agg #[.int .i64 a4_0, .int .i64 a4_1, .bool a4_2, .bool a4_3], .int .i64 a5, .int .i64 a6, .agg #[.int .i64 a7_0, .int .i64 a7_1], .agg #[.int .i64 a8_0, .int .i64 a8_1, .bool a8_2, .bool a8_3], .int .i64 a9] w fun e w' => e = .returned (.bool true) ∧ Below w.heap.size w w' := by
  obtain ⟨k, h⟩ := P a0_0 a0_1 a1_0 a1_1 a1_2 a1_3 a2 a3_0 a3_1 a4_0 a4_1 a4_2 a4_3 a5 a6 a7_0 a7_1 a8_0 a8_1 a8_2 a8_3 a9 w0_0 w0_1 w1_0 w1_1 w2 w3_0 w3_1 w4_0 w4_1 w5 w6 w7_0 w7_1 w8_0 w8_1 w9
  refine (laws_FnBeamsGoOfAll.calls0 (laws_FnBeamsGoOfAll.rest1 laws_FnBeamsGoOfAll.rest2) k a0_0 a0_1 a1_0 a1_1 a1_2 a1_3 a2 a3_0 a3_1 a4_0 a4_1 a4_2 a4_3 a5 a6 a7_0 a7_1 a8_0 a8_1 a8_2 a8_3 a9 true w h rfl).mono ?_
  rintro e w' ⟨rfl, hd⟩
  exact ⟨rfl, hd⟩
end Go.Proofs.Ythfbjofmcniogaa.PFnBeamsGoOfAll

