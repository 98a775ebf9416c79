-- Written by split3.py: what the rests of the law's code answer, told.
import Derived.Test.YthfbjofmcniogaaVN
import Derived.Test.YthfbjofmcniogaaVG
import Derived.Test.YthfbjofmcniogaaPFnBeamsGox0
import Derived.Test.YthfbjofmcniogaaPFnBeamsGox1
import Derived.Test.YthfbjofmcniogaaPFnBeamsGox6
import Derived.Test.YthfbjofmcniogaaPFnBeamsGox9
import Derived.Test.YthfbjofmcniogaaPFnBeamsGox10
import Derived.Test.YthfbjofmcniogaaPFnBeamsGox11
import Derived.Test.YthfbjofmcniogaaPFnBeamsGox12
import Derived.Test.YthfbjofmcniogaaPFnBeamsGox13
import Derived.Test.YthfbjofmcniogaaPFnBeamsGox14
import Derived.Test.YthfbjofmcniogaaPFnBeamsGox15
import Derived.Test.YthfbjofmcniogaaPFnBeamsGox16
import Derived.Test.YthfbjofmcniogaaPFnBeamsGox18
import Derived.Test.YthfbjofmcniogaaPFnBeamsGox19
namespace Go.Proofs.Ythfbjofmcniogaa.PFnBeamsGo
open Go.Proofs.YthfbjofmcniogaaV Go.RowKit Go.Proofs.YthfbjofmcniogaaW.PrintWords Go.Proofs.YthfbjofmcniogaaW.PrintLast Go.Proofs.YthfbjofmcniogaaW.PrintMore
attribute [local go_sem] max2_int min2_int max_two min_two max_three min_three max_four min_four   -- for this text's walks alone
attribute [local go_sem ↓] rdl_zero rdl_succ eval_lit
set_option linter.unusedVariables false
set_option linter.unusedSimpArgs false
attribute [local go_sem high] eqA30
def cl : Code → Code
  | .seq a _ => a
  | c => c
def cr : Code → Code
  | .seq _ b => b
  | c => c
/-- The code behind cut 1, and the test ahead of it. -/
noncomputable def laws_FnBeamsGo.restCode1 : Code := (cr (cr (cr (cr (cr (cr (cr (cr (cr (cr (cr (cr (cr (cr (Try.f6.body.getD .skip)))))))))))))))
noncomputable def laws_FnBeamsGo.testCode1 : Code := (cr (cl (cr (cr (cr (cr (cr (cr (cr (cr (cr (cr (cr (cr (cr (Try.f6.body.getD .skip))))))))))))))))
/-- What it answers. -/
def laws_FnBeamsGo.RestSaid1 : Prop := ∀ (k : Nat) (A0 : Option Addr) (c0 : Nat) (l0 : List Int) (A1 : Option Addr) (c1 : Nat) (l1 : List Int) (r : Bool) (w : World) (b9 b6 c7 c8 : Int) (c9 d0 : Bool) (q4 : Int) (a2 : List (List Int)) (E8 : Bool) (T9 : List (List Int)) (b67 : Bool) (o8 : Int) (o9 : Bool) (b68 : Int) (b69 : Bool) (k9 : Int) (n1 : Bool) (b71 : Int) (b72 : Bool) (l2 : Int) (m3 : Bool) (b75 : Int) (b76 : Bool) (g6 g7 : Int) (g8 g9 ae7 : Bool) (h7 h8 : Int) (h9 i0 b79 : Bool) (e8 : Nat) (h4 : Nat) (E9 : Value) (b81 : Value) (h0 : Nat) (e2 : Nat) (wc : World) (u151 u152 u153 u154 u155 u156 u157 u158 u159 u160 u161 u162 u163 u164 u165 u166 u167 u168 u169 u170 u171 u172 u173 u174 u175 u176 u177 u178 u179 u180 u181 u182 u183 u184 u185 u186 u187 u188 u189 u190 u191 u192 u193 u194 u195 u196 u197 u198 u199 u200 u201 u202 u203 u204 u205 u206 u207 u208 u209 u210 u211 u212 u213 u214 u215 u216 u217 u218 u219 u220 u221 u222 u223 u224 u225 u226 u227 u228 u229 u230 u231 u232 u233 u234 u235 u236 u237 u238 u239 u240 u241 u242 u243 u244 u245 u246 u247 u248 u249 u250 u251 u252 u253 u254 u255 u256 u257 : Value) (kq : Nat) (D1 : Bool)
    (HR0 : Aside0 (Kd.C (Kd.int IntKind.u8) w A0 (List.length l0) l0))
    (HC0 : Aside0 (List.length l0 ≤ c0))
    (HR1 : Aside0 (Kd.C (Kd.int IntKind.u8) w A1 (List.length l1) l1))
    (HC1 : Aside0 (List.length l1 ≤ c1))
    (HT_l : Aside0 (r = true))
    (A3 : Aside0 (laws_big.f l0 l1 = some false))
    (A5 : Aside0 (spec_DrawPlacesOfBeam.f l0 = some (b9, b6, c7, c8, c9, d0, q4)))
    (A6 : Aside0 (impl_PlacesOfBeam.f b9 b6 c7 c8 c9 d0 q4 = some (a2, E8)))
    (A7 : Aside0 (spec_PlacesOfBeam.f k b9 b6 c7 c8 c9 d0 q4 = some (T9, b67)))
    (A8 : Aside0 (impl_StepsToCorner.f b9 b6 c7 c8 c9 d0 = some (o8, o9)))
    (A9 : Aside0 (spec_StepsToCorner.f k b9 b6 c7 c8 c9 d0 = some (b68, b69)))
    (A10 : Aside0 (impl_PeriodOfBeam.f b9 b6 c7 c8 c9 d0 = some (k9, n1)))
    (A11 : Aside0 (spec_PeriodOfBeam.f k b9 b6 c7 c8 c9 d0 = some (b71, b72)))
    (A12 : Aside0 (impl_CountPlaces.f b9 b6 c7 c8 c9 d0 = some (l2, m3)))
    (A13 : Aside0 (spec_CountPlaces.f k b9 b6 c7 c8 c9 d0 = some (b75, b76)))
    (A14 : Aside0 (impl_BackBeam.f b9 b6 c7 c8 c9 d0 = some (g6, g7, g8, g9, ae7)))
    (A15 : Aside0 (spec_BackBeam.f b9 b6 c7 c8 c9 d0 = some (h7, h8, h9, i0, b79)))
    (g55 g56 : Aside0 (Array.size (World.heap w) ≤ e8))
    (g57 g58 : Aside0 (Array.size (World.heap w) ≤ h4))
    (d5 : Aside0 (e8 ≠ h4))
    (d6 : Aside0 (h4 ≠ e8))
    (g61 g62 : Aside0 (Array.size (World.heap w) ≤ h0))
    (d8 : Aside0 (e8 ≠ h0))
    (d9 : Aside0 (h0 ≠ e8))
    (uz3 : Aside0 (h4 ≠ h0))
    (uz4 : Aside0 (h0 ≠ h4))
    (g67 g68 : Aside0 (Array.size (World.heap w) ≤ e2))
    (e0 : Aside0 (e8 ≠ e2))
    (e1 : Aside0 (e2 ≠ e8))
    (uz5 : Aside0 (h4 ≠ e2))
    (uz6 : Aside0 (e2 ≠ h4))
    (K0 : Aside0 (h0 ≠ e2))
    (K1 : Aside0 (e2 ≠ h0))
    (HA : Aside0 (j0 kq l1 q4 a2 E8 o8 o9 k9 n1 l2 m3 D1 b9 b6 c7 c8 c9 d0 g6 g7 g8 g9 = some r))
    (HJ15 : Aside0 (kq ≤ k))
    (a9 : Aside0 (Kd.S (Kd.slice 3 (Kd.int IntKind.i64)) 40 wc (Array.size (World.heap w)) (fun x => True) E9 a2))
    (a3 : Aside0 ((World.heap wc)[e8]? = some (Obj.cells #[Value.int IntKind.i64 b9, Value.int IntKind.i64 b6] 28)))
    (a5 : Aside0 ((World.heap wc)[h4]? = some (Obj.cells #[Value.int IntKind.i64 c7, Value.int IntKind.i64 c8, Value.bool c9, Value.bool d0] 30)))
    (a6 : Aside0 ((World.heap wc)[h0]? = some (Obj.cells #[Value.int IntKind.i64 g6, Value.int IntKind.i64 g7, Value.bool g8, Value.bool g9] 30)))
    (a7 : Aside0 ((World.heap wc)[e2]? = some (Obj.cells #[Value.int IntKind.i64 h7, Value.int IntKind.i64 h8, Value.bool h9, Value.bool i0] 30)))
    (HB : Aside0 (Below (Array.size (World.heap w)) w wc)),
    ∀ K : Act → World → Prop, (∀ a w', Code.wp Try.prog laws_FnBeamsGo.restCode1 (bodyPost Try.prog Try.f6 fun e w' => e = .returned (.bool r) ∧ Below w.heap.size w w') a w' → K a w') →
    Code.wp Try.prog laws_FnBeamsGo.testCode1 (Exit.then K (bodyPost Try.prog Try.f6 fun e w' => e = .returned (.bool r) ∧ Below w.heap.size w w'))
    {
      tmps :=
        #[Value.slice A0 (List.length l0) c0, Value.slice A1 (List.length l1) c1, undef, undef, Value.bool false,
          Value.pointer (some { block := e8, off := 0 }), Value.pointer (some { block := h4, off := 0 }),
          Value.int IntKind.i64 q4, E9, Value.bool E8, b81, Value.bool b67, Value.int IntKind.i64 o8, Value.bool o9,
          Value.int IntKind.i64 b68, Value.bool b69, Value.int IntKind.i64 k9, Value.bool n1, Value.int IntKind.i64 b71,
          Value.bool b72, Value.int IntKind.i64 l2, Value.bool m3, Value.int IntKind.i64 b75, Value.bool b76,
          Value.pointer (some { block := h0, off := 0 }), Value.bool ae7,
          Value.pointer (some { block := e2, off := 0 }), Value.bool b79, undef, undef, undef, undef, undef, undef,
          undef, undef, undef, undef, undef, undef, undef, undef, undef, undef, undef, undef, undef, undef, undef,
          undef, undef, undef, undef, undef, undef, undef, undef, undef, undef, undef, undef, undef, undef, undef,
          undef, undef, undef, undef, undef, undef, undef, undef, undef, undef, undef, undef, undef, undef, undef,
          undef, Value.slice A0 (List.length l0) c0, Value.slice A1 (List.length l1) c1, Value.bool false,
          Value.tuple
            #[Value.agg #[Value.int IntKind.i64 b9, Value.int IntKind.i64 b6],
              Value.agg #[Value.int IntKind.i64 c7, Value.int IntKind.i64 c8, Value.bool c9, Value.bool d0],
              Value.int IntKind.i64 q4],
          Value.slice A0 (List.length l0) c0,
          Value.tuple
            #[Value.agg #[Value.int IntKind.i64 b9, Value.int IntKind.i64 b6],
              Value.agg #[Value.int IntKind.i64 c7, Value.int IntKind.i64 c8, Value.bool c9, Value.bool d0],
              Value.int IntKind.i64 q4],
          Value.agg #[Value.int IntKind.i64 b9, Value.int IntKind.i64 b6],
          Value.agg #[Value.int IntKind.i64 c7, Value.int IntKind.i64 c8, Value.bool c9, Value.bool d0],
          Value.int IntKind.i64 q4, Value.tuple #[E9, Value.bool E8],
          Value.agg #[Value.int IntKind.i64 b9, Value.int IntKind.i64 b6],
          Value.agg #[Value.int IntKind.i64 c7, Value.int IntKind.i64 c8, Value.bool c9, Value.bool d0],
          Value.int IntKind.i64 q4, Value.tuple #[E9, Value.bool E8], E9, Value.bool E8,
          Value.tuple #[b81, Value.bool b67], Value.agg #[Value.int IntKind.i64 b9, Value.int IntKind.i64 b6],
          Value.agg #[Value.int IntKind.i64 c7, Value.int IntKind.i64 c8, Value.bool c9, Value.bool d0],
          Value.int IntKind.i64 q4, Value.tuple #[b81, Value.bool b67], b81, Value.bool b67,
          Value.tuple #[Value.int IntKind.i64 o8, Value.bool o9],
          Value.agg #[Value.int IntKind.i64 b9, Value.int IntKind.i64 b6],
          Value.agg #[Value.int IntKind.i64 c7, Value.int IntKind.i64 c8, Value.bool c9, Value.bool d0],
          Value.tuple #[Value.int IntKind.i64 o8, Value.bool o9], Value.int IntKind.i64 o8, Value.bool o9,
          Value.tuple #[Value.int IntKind.i64 b68, Value.bool b69],
          Value.agg #[Value.int IntKind.i64 b9, Value.int IntKind.i64 b6],
          Value.agg #[Value.int IntKind.i64 c7, Value.int IntKind.i64 c8, Value.bool c9, Value.bool d0],
          Value.tuple #[Value.int IntKind.i64 b68, Value.bool b69], Value.int IntKind.i64 b68, Value.bool b69,
          Value.tuple #[Value.int IntKind.i64 k9, Value.bool n1],
          Value.agg #[Value.int IntKind.i64 b9, Value.int IntKind.i64 b6],
          Value.agg #[Value.int IntKind.i64 c7, Value.int IntKind.i64 c8, Value.bool c9, Value.bool d0],
          Value.tuple #[Value.int IntKind.i64 k9, Value.bool n1], Value.int IntKind.i64 k9, Value.bool n1,
          Value.tuple #[Value.int IntKind.i64 b71, Value.bool b72],
          Value.agg #[Value.int IntKind.i64 b9, Value.int IntKind.i64 b6],
          Value.agg #[Value.int IntKind.i64 c7, Value.int IntKind.i64 c8, Value.bool c9, Value.bool d0],
          Value.tuple #[Value.int IntKind.i64 b71, Value.bool b72], Value.int IntKind.i64 b71, Value.bool b72,
          Value.tuple #[Value.int IntKind.i64 l2, Value.bool m3],
          Value.agg #[Value.int IntKind.i64 b9, Value.int IntKind.i64 b6],
          Value.agg #[Value.int IntKind.i64 c7, Value.int IntKind.i64 c8, Value.bool c9, Value.bool d0],
          Value.tuple #[Value.int IntKind.i64 l2, Value.bool m3], Value.int IntKind.i64 l2, Value.bool m3,
          Value.tuple #[Value.int IntKind.i64 b75, Value.bool b76],
          Value.agg #[Value.int IntKind.i64 b9, Value.int IntKind.i64 b6],
          Value.agg #[Value.int IntKind.i64 c7, Value.int IntKind.i64 c8, Value.bool c9, Value.bool d0],
          Value.tuple #[Value.int IntKind.i64 b75, Value.bool b76], Value.int IntKind.i64 b75, Value.bool b76,
          Value.tuple
            #[Value.agg #[Value.int IntKind.i64 g6, Value.int IntKind.i64 g7, Value.bool g8, Value.bool g9],
              Value.bool ae7],
          Value.agg #[Value.int IntKind.i64 b9, Value.int IntKind.i64 b6],
          Value.agg #[Value.int IntKind.i64 c7, Value.int IntKind.i64 c8, Value.bool c9, Value.bool d0],
          Value.tuple
            #[Value.agg #[Value.int IntKind.i64 g6, Value.int IntKind.i64 g7, Value.bool g8, Value.bool g9],
              Value.bool ae7],
          Value.agg #[Value.int IntKind.i64 g6, Value.int IntKind.i64 g7, Value.bool g8, Value.bool g9], Value.bool ae7,
          Value.tuple
            #[Value.agg #[Value.int IntKind.i64 h7, Value.int IntKind.i64 h8, Value.bool h9, Value.bool i0],
              Value.bool b79],
          Value.agg #[Value.int IntKind.i64 b9, Value.int IntKind.i64 b6],
          Value.agg #[Value.int IntKind.i64 c7, Value.int IntKind.i64 c8, Value.bool c9, Value.bool d0],
          Value.tuple
            #[Value.agg #[Value.int IntKind.i64 h7, Value.int IntKind.i64 h8, Value.bool h9, Value.bool i0],
              Value.bool b79],
          Value.agg #[Value.int IntKind.i64 h7, Value.int IntKind.i64 h8, Value.bool h9, Value.bool i0], Value.bool b79,
          u151, u152, u153, u154, u155, u156, u157, u158, u159, u160, u161, u162, u163, u164, u165, u166, u167, u168,
          u169, u170, u171, u172, u173, u174, u175, u176, u177, u178, u179, u180, u181, u182, u183, u184, u185, u186,
          u187, u188, u189, u190, u191, u192, u193, u194, u195, u196, u197, u198, u199, u200, u201, u202, u203, u204,
          u205, u206, u207, u208, u209, u210, u211, u212, u213, u214, u215, u216, u217, u218, u219, u220, u221, u222,
          u223, u224, u225, u226, u227, u228, u229, u230, u231, u232, u233, u234, u235, u236, u237, u238, u239, u240,
          u241, u242, u243, u244, u245, u246, u247, u248, u249, u250, u251, u252, u253, u254, u255, u256, u257,
          Value.bool D1, undef, undef, undef, undef, undef, undef, undef, undef, undef, undef, undef, undef, undef,
          undef, undef, undef, undef, undef, undef, undef, undef, undef, undef, undef, undef, undef, undef, undef,
          undef, undef, undef, undef, undef, undef, undef, undef, undef, undef, undef, undef, undef, undef, undef,
          undef, undef, undef, undef, undef, undef, undef, undef, undef, undef, undef, undef, undef, undef, undef,
          undef, undef, undef, undef, undef, undef, undef, undef, undef, undef, undef, undef, undef, undef, undef,
          undef, undef, undef, undef, undef, undef, undef, undef, undef, undef, undef, undef, undef, undef, undef,
          undef, undef, undef, undef, undef, undef, undef, undef, undef, undef, undef, undef, undef, undef, undef,
          undef, undef, undef, undef, undef, undef, undef, undef, undef, undef, undef, undef, undef, undef, undef,
          undef, undef, undef, undef, undef, undef, undef, undef, undef, undef, undef, undef, undef, undef, undef,
          undef, undef, undef, undef, undef, undef, undef, undef, undef, undef, undef, undef, undef, undef, undef,
          undef, undef, undef, undef, undef, undef, undef, undef, undef, undef, undef, undef, undef, undef, undef,
          undef, undef, undef, undef, undef, undef, undef, undef, undef, undef, undef, undef, undef, undef, undef,
          undef, undef, undef, undef, undef, undef, undef, undef, undef, undef, undef, undef, undef, undef, undef,
          undef, undef, undef, undef, undef, undef, undef, undef, undef, undef, undef, undef, undef, undef, undef,
          undef, undef, undef, undef, undef, undef, undef, undef, undef, undef, undef, undef, undef, undef, undef,
          undef, undef, undef, undef, undef, undef, undef, undef, undef, undef, undef, undef, undef, undef, undef,
          undef, undef, undef, undef, undef, undef, undef, undef, undef, undef, undef, undef, undef, undef, undef,
          undef, undef, undef, undef, undef, undef, undef, undef, undef, undef, undef, undef, undef, undef, undef,
          undef, undef, undef, undef, undef, undef, undef, undef, undef, undef, undef, undef, undef, undef, undef,
          undef, undef, undef, undef, undef, undef, undef, undef, undef, undef, undef, undef, undef, undef, undef,
          undef, undef, undef, undef, undef, undef, undef, undef, undef, undef, undef, undef, undef, undef, undef,
          undef, undef, undef, undef, undef, undef, undef, undef, undef, undef, undef, undef, undef, undef, undef,
          undef, undef, undef, undef, undef, undef, undef, undef, undef, undef, undef, undef, undef, undef, undef,
          undef, undef, undef, undef, undef, undef, undef, undef, undef, undef, undef, undef, undef, undef, undef,
          undef, undef, undef, undef, undef, undef, undef, undef, undef, undef, undef, undef, undef, undef, undef,
          undef, undef, undef, undef, undef, undef, undef, undef, undef, undef, undef, undef, undef, undef, undef,
          undef, undef, undef, undef, undef, undef, undef, undef, undef, undef, undef, undef, undef, undef, undef,
          undef, undef, undef, undef, undef, undef, undef, undef, undef, undef, undef, undef, undef, undef, undef,
          undef, undef, undef, undef, undef, undef, undef, undef, undef, undef, undef, undef, undef, undef, undef,
          undef, undef, undef, undef, undef, undef, undef, undef, undef, undef, undef, undef, undef, undef, undef,
          undef, undef, undef, undef, undef, undef, undef, undef, undef, undef, undef, undef, undef, undef, undef,
          undef, undef, undef, undef, undef, undef, undef, undef, undef, undef, undef, undef, undef, undef, undef,
          undef, undef, undef, undef, undef, undef, undef, undef, undef, undef, undef, undef, undef, undef, undef,
          undef, undef, undef, undef, undef, undef, undef, undef, undef, undef, undef, undef, undef, undef, undef,
          undef, undef, undef, undef, undef, undef, undef, undef, undef, undef, undef, undef, undef, undef, undef,
          undef, undef, undef, undef, undef, undef, undef, undef, undef, undef, undef, undef, undef, undef, undef,
          undef, undef, undef, undef, undef, undef, undef, undef, undef, undef, undef, undef, undef, undef, undef,
          undef, undef, undef, undef, undef, undef, undef, undef, undef, undef, undef, undef, undef, undef, undef,
          undef, undef, undef, undef, undef, undef],
      defers := [] }
    wc
/-- The code behind cut 2. -/
noncomputable def laws_FnBeamsGo.restCode2 : Code := (cr (cr (cr (cr (cr (cr (cr (cr (cr (cr (cr (cr (cr (cr (cr (Try.f6.body.getD .skip))))))))))))))))
/-- What it answers. -/
def laws_FnBeamsGo.RestSaid2 : Prop := ∀ (k : Nat) (A0 : Option Addr) (c0 : Nat) (l0 : List Int) (A1 : Option Addr) (c1 : Nat) (l1 : List Int) (r : Bool) (w : World) (b9 b6 c7 c8 : Int) (c9 d0 : Bool) (q4 : Int) (a2 : List (List Int)) (E8 : Bool) (T9 : List (List Int)) (b67 : Bool) (o8 : Int) (o9 : Bool) (b68 : Int) (b69 : Bool) (k9 : Int) (n1 : Bool) (b71 : Int) (b72 : Bool) (l2 : Int) (m3 : Bool) (b75 : Int) (b76 : Bool) (g6 g7 : Int) (g8 g9 ae7 : Bool) (h7 h8 : Int) (h9 i0 b79 : Bool) (e8 : Nat) (h4 : Nat) (E9 : Value) (b81 : Value) (h0 : Nat) (e2 : Nat) (u151 u152 u153 u154 u155 u156 u157 u158 u159 u160 u161 u162 u163 u164 u165 u166 u167 u168 u169 u170 u171 u172 u173 u174 u175 u176 u177 u178 u179 u180 u181 u182 u183 u184 u185 u186 u187 u188 u189 u190 u191 u192 u193 u194 u195 u196 u197 u198 u199 u200 u201 u202 u203 u204 u205 u206 u207 u208 u209 u210 u211 u212 u213 u214 u215 u216 u217 u218 u219 u220 u221 u222 u223 u224 u225 u226 u227 u228 u229 u230 u231 u232 u233 u234 u235 u236 u237 u238 u239 u240 u241 u242 u243 u244 u245 u246 u247 u248 u249 u250 u251 u252 u253 u254 u255 u256 u257 : Value) (b92 : Nat) (wc : World) (u4 u28 u29 u30 u31 u32 u33 u34 u35 u36 u37 u38 u39 u259 u260 u261 u262 u263 u264 u265 u266 u267 u268 u269 u270 u271 u272 u273 u274 u275 u276 u277 u278 u279 u280 u281 u282 u283 u284 u285 u286 u287 u288 u289 u290 u291 u292 u293 u294 u295 u296 u297 u298 u299 u300 u301 u302 u303 u304 u305 u306 u307 u308 u309 u310 u311 u312 u313 u314 u315 u316 u317 u318 u319 u320 u321 u322 u323 u324 u325 u326 u327 u328 u329 u330 u331 u332 u333 u334 u335 u336 u337 u338 u339 u340 u341 u342 u343 u344 u345 u346 u347 u348 u349 u350 u351 u352 u353 u354 u355 u356 u357 u358 u359 u360 u361 u362 u363 u364 u365 u366 u367 u368 u369 u370 u371 u372 u373 u374 u375 u376 u377 u378 u379 u380 u381 u382 u383 u384 u385 u386 u387 u388 u389 u390 u391 u392 u393 u394 u395 u396 u397 u398 u399 u400 u401 u402 u403 u404 u405 u406 u407 u408 u409 u410 u411 u412 u413 u414 u415 u416 u417 u418 u419 u420 u421 u422 u423 u424 u425 u426 u427 u428 u429 u430 u431 u432 u433 u434 u435 u436 u437 u438 u439 u440 u441 u442 u443 u444 u445 u446 u447 u448 u449 u450 u451 u452 u453 u454 u455 u456 u457 u458 u459 u460 u461 u462 u463 u464 u465 u466 u467 u468 u469 u470 u471 u472 u473 u474 u475 u476 u477 u478 u479 u480 u481 u482 u483 u484 u485 u486 u487 u488 u489 u490 u491 u492 u493 u494 u495 u496 u497 u498 u499 u500 u501 u502 u503 u504 u505 u506 u507 u508 u509 u510 u511 u512 u513 u514 u515 u516 : Value) (kq : Nat)
    (HR0 : Aside0 (Kd.C (Kd.int IntKind.u8) w A0 (List.length l0) l0))
    (HC0 : Aside0 (List.length l0 ≤ c0))
    (HR1 : Aside0 (Kd.C (Kd.int IntKind.u8) w A1 (List.length l1) l1))
    (HC1 : Aside0 (List.length l1 ≤ c1))
    (HT_l : Aside0 (r = true))
    (A3 : Aside0 (laws_big.f l0 l1 = some false))
    (A5 : Aside0 (spec_DrawPlacesOfBeam.f l0 = some (b9, b6, c7, c8, c9, d0, q4)))
    (A6 : Aside0 (impl_PlacesOfBeam.f b9 b6 c7 c8 c9 d0 q4 = some (a2, E8)))
    (A7 : Aside0 (spec_PlacesOfBeam.f k b9 b6 c7 c8 c9 d0 q4 = some (T9, b67)))
    (A8 : Aside0 (impl_StepsToCorner.f b9 b6 c7 c8 c9 d0 = some (o8, o9)))
    (A9 : Aside0 (spec_StepsToCorner.f k b9 b6 c7 c8 c9 d0 = some (b68, b69)))
    (A10 : Aside0 (impl_PeriodOfBeam.f b9 b6 c7 c8 c9 d0 = some (k9, n1)))
    (A11 : Aside0 (spec_PeriodOfBeam.f k b9 b6 c7 c8 c9 d0 = some (b71, b72)))
    (A12 : Aside0 (impl_CountPlaces.f b9 b6 c7 c8 c9 d0 = some (l2, m3)))
    (A13 : Aside0 (spec_CountPlaces.f k b9 b6 c7 c8 c9 d0 = some (b75, b76)))
    (A14 : Aside0 (impl_BackBeam.f b9 b6 c7 c8 c9 d0 = some (g6, g7, g8, g9, ae7)))
    (A15 : Aside0 (spec_BackBeam.f b9 b6 c7 c8 c9 d0 = some (h7, h8, h9, i0, b79)))
    (g55 g56 : Aside0 (Array.size (World.heap w) ≤ e8))
    (g57 g58 : Aside0 (Array.size (World.heap w) ≤ h4))
    (d5 : Aside0 (e8 ≠ h4))
    (d6 : Aside0 (h4 ≠ e8))
    (g61 g62 : Aside0 (Array.size (World.heap w) ≤ h0))
    (d8 : Aside0 (e8 ≠ h0))
    (d9 : Aside0 (h0 ≠ e8))
    (uz3 : Aside0 (h4 ≠ h0))
    (uz4 : Aside0 (h0 ≠ h4))
    (g67 g68 : Aside0 (Array.size (World.heap w) ≤ e2))
    (e0 : Aside0 (e8 ≠ e2))
    (e1 : Aside0 (e2 ≠ e8))
    (uz5 : Aside0 (h4 ≠ e2))
    (uz6 : Aside0 (e2 ≠ h4))
    (K0 : Aside0 (h0 ≠ e2))
    (K1 : Aside0 (e2 ≠ h0))
    (HJ15 : Aside0 (b92 + 1 ≤ k))
    (HA : Aside0 (j10 kq l1 k9 n1 l2 m3 b9 b6 c7 c8 c9 d0 g6 g7 g8 g9 = some r))
    (HJ128 : Aside0 (kq ≤ b92))
    (a3 : Aside0 ((World.heap wc)[e8]? = some (Obj.cells #[Value.int IntKind.i64 b9, Value.int IntKind.i64 b6] 28)))
    (a5 : Aside0 ((World.heap wc)[h4]? = some (Obj.cells #[Value.int IntKind.i64 c7, Value.int IntKind.i64 c8, Value.bool c9, Value.bool d0] 30)))
    (a6 : Aside0 ((World.heap wc)[h0]? = some (Obj.cells #[Value.int IntKind.i64 g6, Value.int IntKind.i64 g7, Value.bool g8, Value.bool g9] 30)))
    (a7 : Aside0 ((World.heap wc)[e2]? = some (Obj.cells #[Value.int IntKind.i64 h7, Value.int IntKind.i64 h8, Value.bool h9, Value.bool i0] 30)))
    (HB : Aside0 (Below (Array.size (World.heap w)) w wc)),
    Code.wp Try.prog laws_FnBeamsGo.restCode2 (bodyPost Try.prog Try.f6 fun e w' => e = .returned (.bool r) ∧ Below w.heap.size w w')
    {
      tmps :=
        #[Value.slice A0 (List.length l0) c0, Value.slice A1 (List.length l1) c1, undef, undef, u4,
          Value.pointer (some { block := e8, off := 0 }), Value.pointer (some { block := h4, off := 0 }),
          Value.int IntKind.i64 q4, E9, Value.bool E8, b81, Value.bool b67, Value.int IntKind.i64 o8, Value.bool o9,
          Value.int IntKind.i64 b68, Value.bool b69, Value.int IntKind.i64 k9, Value.bool n1, Value.int IntKind.i64 b71,
          Value.bool b72, Value.int IntKind.i64 l2, Value.bool m3, Value.int IntKind.i64 b75, Value.bool b76,
          Value.pointer (some { block := h0, off := 0 }), Value.bool ae7,
          Value.pointer (some { block := e2, off := 0 }), Value.bool b79, u28, u29, u30, u31, u32, u33, u34, u35, u36,
          u37, u38, u39, undef, undef, undef, undef, undef, undef, undef, undef, undef, undef, undef, undef, undef,
          undef, undef, undef, undef, undef, undef, undef, undef, undef, undef, undef, undef, undef, undef, undef,
          undef, undef, undef, undef, undef, undef, undef, undef, undef, undef, undef, undef,
          Value.slice A0 (List.length l0) c0, Value.slice A1 (List.length l1) c1, Value.bool false,
          Value.tuple
            #[Value.agg #[Value.int IntKind.i64 b9, Value.int IntKind.i64 b6],
              Value.agg #[Value.int IntKind.i64 c7, Value.int IntKind.i64 c8, Value.bool c9, Value.bool d0],
              Value.int IntKind.i64 q4],
          Value.slice A0 (List.length l0) c0,
          Value.tuple
            #[Value.agg #[Value.int IntKind.i64 b9, Value.int IntKind.i64 b6],
              Value.agg #[Value.int IntKind.i64 c7, Value.int IntKind.i64 c8, Value.bool c9, Value.bool d0],
              Value.int IntKind.i64 q4],
          Value.agg #[Value.int IntKind.i64 b9, Value.int IntKind.i64 b6],
          Value.agg #[Value.int IntKind.i64 c7, Value.int IntKind.i64 c8, Value.bool c9, Value.bool d0],
          Value.int IntKind.i64 q4, Value.tuple #[E9, Value.bool E8],
          Value.agg #[Value.int IntKind.i64 b9, Value.int IntKind.i64 b6],
          Value.agg #[Value.int IntKind.i64 c7, Value.int IntKind.i64 c8, Value.bool c9, Value.bool d0],
          Value.int IntKind.i64 q4, Value.tuple #[E9, Value.bool E8], E9, Value.bool E8,
          Value.tuple #[b81, Value.bool b67], Value.agg #[Value.int IntKind.i64 b9, Value.int IntKind.i64 b6],
          Value.agg #[Value.int IntKind.i64 c7, Value.int IntKind.i64 c8, Value.bool c9, Value.bool d0],
          Value.int IntKind.i64 q4, Value.tuple #[b81, Value.bool b67], b81, Value.bool b67,
          Value.tuple #[Value.int IntKind.i64 o8, Value.bool o9],
          Value.agg #[Value.int IntKind.i64 b9, Value.int IntKind.i64 b6],
          Value.agg #[Value.int IntKind.i64 c7, Value.int IntKind.i64 c8, Value.bool c9, Value.bool d0],
          Value.tuple #[Value.int IntKind.i64 o8, Value.bool o9], Value.int IntKind.i64 o8, Value.bool o9,
          Value.tuple #[Value.int IntKind.i64 b68, Value.bool b69],
          Value.agg #[Value.int IntKind.i64 b9, Value.int IntKind.i64 b6],
          Value.agg #[Value.int IntKind.i64 c7, Value.int IntKind.i64 c8, Value.bool c9, Value.bool d0],
          Value.tuple #[Value.int IntKind.i64 b68, Value.bool b69], Value.int IntKind.i64 b68, Value.bool b69,
          Value.tuple #[Value.int IntKind.i64 k9, Value.bool n1],
          Value.agg #[Value.int IntKind.i64 b9, Value.int IntKind.i64 b6],
          Value.agg #[Value.int IntKind.i64 c7, Value.int IntKind.i64 c8, Value.bool c9, Value.bool d0],
          Value.tuple #[Value.int IntKind.i64 k9, Value.bool n1], Value.int IntKind.i64 k9, Value.bool n1,
          Value.tuple #[Value.int IntKind.i64 b71, Value.bool b72],
          Value.agg #[Value.int IntKind.i64 b9, Value.int IntKind.i64 b6],
          Value.agg #[Value.int IntKind.i64 c7, Value.int IntKind.i64 c8, Value.bool c9, Value.bool d0],
          Value.tuple #[Value.int IntKind.i64 b71, Value.bool b72], Value.int IntKind.i64 b71, Value.bool b72,
          Value.tuple #[Value.int IntKind.i64 l2, Value.bool m3],
          Value.agg #[Value.int IntKind.i64 b9, Value.int IntKind.i64 b6],
          Value.agg #[Value.int IntKind.i64 c7, Value.int IntKind.i64 c8, Value.bool c9, Value.bool d0],
          Value.tuple #[Value.int IntKind.i64 l2, Value.bool m3], Value.int IntKind.i64 l2, Value.bool m3,
          Value.tuple #[Value.int IntKind.i64 b75, Value.bool b76],
          Value.agg #[Value.int IntKind.i64 b9, Value.int IntKind.i64 b6],
          Value.agg #[Value.int IntKind.i64 c7, Value.int IntKind.i64 c8, Value.bool c9, Value.bool d0],
          Value.tuple #[Value.int IntKind.i64 b75, Value.bool b76], Value.int IntKind.i64 b75, Value.bool b76,
          Value.tuple
            #[Value.agg #[Value.int IntKind.i64 g6, Value.int IntKind.i64 g7, Value.bool g8, Value.bool g9],
              Value.bool ae7],
          Value.agg #[Value.int IntKind.i64 b9, Value.int IntKind.i64 b6],
          Value.agg #[Value.int IntKind.i64 c7, Value.int IntKind.i64 c8, Value.bool c9, Value.bool d0],
          Value.tuple
            #[Value.agg #[Value.int IntKind.i64 g6, Value.int IntKind.i64 g7, Value.bool g8, Value.bool g9],
              Value.bool ae7],
          Value.agg #[Value.int IntKind.i64 g6, Value.int IntKind.i64 g7, Value.bool g8, Value.bool g9], Value.bool ae7,
          Value.tuple
            #[Value.agg #[Value.int IntKind.i64 h7, Value.int IntKind.i64 h8, Value.bool h9, Value.bool i0],
              Value.bool b79],
          Value.agg #[Value.int IntKind.i64 b9, Value.int IntKind.i64 b6],
          Value.agg #[Value.int IntKind.i64 c7, Value.int IntKind.i64 c8, Value.bool c9, Value.bool d0],
          Value.tuple
            #[Value.agg #[Value.int IntKind.i64 h7, Value.int IntKind.i64 h8, Value.bool h9, Value.bool i0],
              Value.bool b79],
          Value.agg #[Value.int IntKind.i64 h7, Value.int IntKind.i64 h8, Value.bool h9, Value.bool i0], Value.bool b79,
          u151, u152, u153, u154, u155, u156, u157, u158, u159, u160, u161, u162, u163, u164, u165, u166, u167, u168,
          u169, u170, u171, u172, u173, u174, u175, u176, u177, u178, u179, u180, u181, u182, u183, u184, u185, u186,
          u187, u188, u189, u190, u191, u192, u193, u194, u195, u196, u197, u198, u199, u200, u201, u202, u203, u204,
          u205, u206, u207, u208, u209, u210, u211, u212, u213, u214, u215, u216, u217, u218, u219, u220, u221, u222,
          u223, u224, u225, u226, u227, u228, u229, u230, u231, u232, u233, u234, u235, u236, u237, u238, u239, u240,
          u241, u242, u243, u244, u245, u246, u247, u248, u249, u250, u251, u252, u253, u254, u255, u256, u257,
          Value.bool false, u259, u260, u261, u262, u263, u264, u265, u266, u267, u268, u269, u270, u271, u272, u273,
          u274, u275, u276, u277, u278, u279, u280, u281, u282, u283, u284, u285, u286, u287, u288, u289, u290, u291,
          u292, u293, u294, u295, u296, u297, u298, u299, u300, u301, u302, u303, u304, u305, u306, u307, u308, u309,
          u310, u311, u312, u313, u314, u315, u316, u317, u318, u319, u320, u321, u322, u323, u324, u325, u326, u327,
          u328, u329, u330, u331, u332, u333, u334, u335, u336, u337, u338, u339, u340, u341, u342, u343, u344, u345,
          u346, u347, u348, u349, u350, u351, u352, u353, u354, u355, u356, u357, u358, u359, u360, u361, u362, u363,
          u364, u365, u366, u367, u368, u369, u370, u371, u372, u373, u374, u375, u376, u377, u378, u379, u380, u381,
          u382, u383, u384, u385, u386, u387, u388, u389, u390, u391, u392, u393, u394, u395, u396, u397, u398, u399,
          u400, u401, u402, u403, u404, u405, u406, u407, u408, u409, u410, u411, u412, u413, u414, u415, u416, u417,
          u418, u419, u420, u421, u422, u423, u424, u425, u426, u427, u428, u429, u430, u431, u432, u433, u434, u435,
          u436, u437, u438, u439, u440, u441, u442, u443, u444, u445, u446, u447, u448, u449, u450, u451, u452, u453,
          u454, u455, u456, u457, u458, u459, u460, u461, u462, u463, u464, u465, u466, u467, u468, u469, u470, u471,
          u472, u473, u474, u475, u476, u477, u478, u479, u480, u481, u482, u483, u484, u485, u486, u487, u488, u489,
          u490, u491, u492, u493, u494, u495, u496, u497, u498, u499, u500, u501, u502, u503, u504, u505, u506, u507,
          u508, u509, u510, u511, u512, u513, u514, u515, u516, undef, undef, undef, undef, undef, undef, undef, undef,
          undef, undef, undef, undef, undef, undef, undef, undef, undef, undef, undef, undef, undef, undef, undef,
          undef, undef, undef, undef, undef, undef, undef, undef, undef, undef, undef, undef, undef, undef, undef,
          undef, undef, undef, undef, undef, undef, undef, undef, undef, undef, undef, undef, undef, undef, undef,
          undef, undef, undef, undef, undef, undef, undef, undef, undef, undef, undef, undef, undef, undef, undef,
          undef, undef, undef, undef, undef, undef, undef, undef, undef, undef, undef, undef, undef, undef, undef,
          undef, undef, undef, undef, undef, undef, undef, undef, undef, undef, undef, undef, undef, undef, undef,
          undef, undef, undef, undef, undef, undef, undef, undef, undef, undef, undef, undef, undef, undef, undef,
          undef, undef, undef, undef, undef, undef, undef, undef, undef, undef, undef, undef, undef, undef, undef,
          undef, undef, undef, undef, undef, undef, undef, undef, undef, undef, undef, undef, undef, undef, undef,
          undef, undef, undef, undef, undef, undef, undef, undef, undef, undef, undef, undef, undef, undef, undef,
          undef, undef, undef, undef, undef, undef, undef, undef, undef, undef, undef, undef, undef, undef, undef,
          undef, undef, undef, undef, undef, undef, undef, undef, undef, undef, undef, undef, undef, undef, undef,
          undef, undef, undef, undef, undef, undef, undef, undef, undef, undef, undef, undef, undef, undef, undef,
          undef, undef, undef, undef, undef, undef, undef, undef, undef, undef, undef, undef, undef, undef, undef,
          undef, undef, undef, undef, undef, undef, undef, undef, undef, undef, undef, undef, undef, undef, undef,
          undef, undef, undef, undef, undef, undef, undef, undef, undef, undef, undef, undef, undef, undef, undef,
          undef, undef, undef, undef, undef, undef, undef, undef, undef, undef, undef, undef, undef, undef, undef,
          undef, undef, undef, undef, undef, undef, undef, undef, undef, undef, undef, undef, undef, undef, undef,
          undef, undef, undef, undef, undef, undef, undef, undef, undef, undef, undef, undef, undef, undef, undef,
          undef, undef, undef, undef, undef, undef, undef, undef, undef, undef, undef, undef, undef, undef, undef,
          undef, undef, undef, undef, undef, undef, undef, undef],
      defers := [] }
    wc
end Go.Proofs.Ythfbjofmcniogaa.PFnBeamsGo
