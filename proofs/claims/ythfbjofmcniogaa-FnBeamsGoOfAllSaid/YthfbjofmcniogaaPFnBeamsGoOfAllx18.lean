-- Written by split3.py: what the rests of the law's code answer, told.
import Derived.Test.YthfbjofmcniogaaVM
import Derived.Test.YthfbjofmcniogaaVF
import Derived.Test.YthfbjofmcniogaaPFnBeamsGoOfAllx0
import Derived.Test.YthfbjofmcniogaaPFnBeamsGoOfAllx1
import Derived.Test.YthfbjofmcniogaaPFnBeamsGoOfAllx6
import Derived.Test.YthfbjofmcniogaaPFnBeamsGoOfAllx9
import Derived.Test.YthfbjofmcniogaaPFnBeamsGoOfAllx10
import Derived.Test.YthfbjofmcniogaaPFnBeamsGoOfAllx11
import Derived.Test.YthfbjofmcniogaaPFnBeamsGoOfAllx12
import Derived.Test.YthfbjofmcniogaaPFnBeamsGoOfAllx13
import Derived.Test.YthfbjofmcniogaaPFnBeamsGoOfAllx14
import Derived.Test.YthfbjofmcniogaaPFnBeamsGoOfAllx15
import Derived.Test.YthfbjofmcniogaaPFnBeamsGoOfAllx16
import Derived.Test.YthfbjofmcniogaaPFnBeamsGoOfAllx17
namespace Go.Proofs.Ythfbjofmcniogaa.PFnBeamsGoOfAll
open Go.Proofs.YthfbjofmcniogaaV Go.RowKit Go.Proofs.YthfbjofmcniogaaW.PrintWords Go.Proofs.YthfbjofmcniogaaW.PrintLast Go.Proofs.YthfbjofmcniogaaW.PrintMore
attribute [local go_sem] max2_int min2_int max_two min_two max_three min_three max_four min_four   -- for this text's walks alone
attribute [local go_sem ↓] rdl_zero rdl_succ eval_lit
set_option linter.unusedVariables false
set_option linter.unusedSimpArgs false
attribute [local go_sem high] eqA30
def cl : Code → Code
  | .seq a _ => a
  | c => c
def cr : Code → Code
  | .seq _ b => b
  | c => c
/-- The code behind cut 1, and the test ahead of it. -/
noncomputable def laws_FnBeamsGoOfAll.restCode1 : Code := (cr (cr (cr (cr (cr (cr (cr (cr (cr (cr (cr (cr (Try.f5.body.getD .skip)))))))))))))
noncomputable def laws_FnBeamsGoOfAll.testCode1 : Code := (cr (cl (cr (cr (cr (cr (cr (cr (cr (cr (cr (cr (cr (Try.f5.body.getD .skip))))))))))))))
/-- What it answers. -/
def laws_FnBeamsGoOfAll.RestSaid1 : Prop := ∀ (k : Nat) (a0_0 a0_1 a1_0 a1_1 : Int) (a1_2 a1_3 : Bool) (a2 a3_0 a3_1 a4_0 a4_1 : Int) (a4_2 a4_3 : Bool) (a5 a6 a7_0 a7_1 a8_0 a8_1 : Int) (a8_2 a8_3 : Bool) (a9 : Int) (r : Bool) (w : World) (a0 : List (List Int)) (C9 : Bool) (P1 : List (List Int)) (b50 : Bool) (n7 : Int) (n8 : Bool) (b53 : Int) (b54 : Bool) (l3 : Int) (l9 : Bool) (b57 : Int) (b58 : Bool) (l4 : Int) (l7 : Bool) (b61 : Int) (b62 : Bool) (g5 g6 : Int) (g7 g8 ae1 : Bool) (h8 h9 : Int) (i0 i1 b65 : Bool) (e9 : Nat) (h2 : Nat) (k0 : Nat) (k1 : Nat) (h4 : Nat) (k2 : Nat) (D0 : Value) (b67 : Value) (g9 : Nat) (e3 : Nat) (wc : World) (u148 u149 u150 u151 u152 u153 u154 u155 u156 u157 u158 u159 u160 u161 u162 u163 u164 u165 u166 u167 u168 u169 u170 u171 u172 u173 u174 u175 u176 u177 u178 u179 u180 u181 u182 u183 u184 u185 u186 u187 u188 u189 u190 u191 u192 u193 u194 u195 u196 u197 u198 u199 u200 u201 u202 u203 u204 u205 u206 u207 u208 u209 u210 u211 u212 u213 u214 u215 u216 u217 u218 u219 u220 u221 u222 u223 u224 u225 u226 u227 u228 u229 u230 u231 u232 u233 u234 u235 u236 u237 u238 u239 u240 u241 u242 u243 u244 u245 u246 u247 u248 u249 u250 u251 u252 u253 u254 : Value) (kq : Nat) (B2 : Bool)
    (HT_l : Aside0 (r = true))
    (A11 : Aside0 (impl_PlacesOfBeam.f a0_0 a0_1 a1_0 a1_1 a1_2 a1_3 a2 = some (a0, C9)))
    (A12 : Aside0 (spec_PlacesOfBeam.f k a0_0 a0_1 a1_0 a1_1 a1_2 a1_3 a2 = some (P1, b50)))
    (A13 : Aside0 (impl_StepsToCorner.f a0_0 a0_1 a1_0 a1_1 a1_2 a1_3 = some (n7, n8)))
    (A14 : Aside0 (spec_StepsToCorner.f k a0_0 a0_1 a1_0 a1_1 a1_2 a1_3 = some (b53, b54)))
    (A15 : Aside0 (impl_PeriodOfBeam.f a0_0 a0_1 a1_0 a1_1 a1_2 a1_3 = some (l3, l9)))
    (A16 : Aside0 (spec_PeriodOfBeam.f k a0_0 a0_1 a1_0 a1_1 a1_2 a1_3 = some (b57, b58)))
    (A17 : Aside0 (impl_CountPlaces.f a0_0 a0_1 a1_0 a1_1 a1_2 a1_3 = some (l4, l7)))
    (A18 : Aside0 (spec_CountPlaces.f k a0_0 a0_1 a1_0 a1_1 a1_2 a1_3 = some (b61, b62)))
    (A19 : Aside0 (impl_BackBeam.f a0_0 a0_1 a1_0 a1_1 a1_2 a1_3 = some (g5, g6, g7, g8, ae1)))
    (A20 : Aside0 (spec_BackBeam.f a0_0 a0_1 a1_0 a1_1 a1_2 a1_3 = some (h8, h9, i0, i1, b65)))
    (gq9 gr0 : Aside0 (Array.size (World.heap w) ≤ e9))
    (gr1 gr2 : Aside0 (Array.size (World.heap w) ≤ h2))
    (d6 : Aside0 (e9 ≠ h2))
    (d7 : Aside0 (h2 ≠ e9))
    (gr3 gr4 : Aside0 (Array.size (World.heap w) ≤ k0))
    (d1 : Aside0 (e9 ≠ k0))
    (d2 : Aside0 (k0 ≠ e9))
    (o1 : Aside0 (h2 ≠ k0))
    (o2 : Aside0 (k0 ≠ h2))
    (gr5 gr6 : Aside0 (Array.size (World.heap w) ≤ k1))
    (d3 : Aside0 (e9 ≠ k1))
    (d4 : Aside0 (k1 ≠ e9))
    (o3 : Aside0 (h2 ≠ k1))
    (o4 : Aside0 (k1 ≠ h2))
    (G8 : Aside0 (k0 ≠ k1))
    (G9 : Aside0 (k1 ≠ k0))
    (gr7 gr8 : Aside0 (Array.size (World.heap w) ≤ h4))
    (c2 : Aside0 (e9 ≠ h4))
    (c3 : Aside0 (h4 ≠ e9))
    (h6 : Aside0 (h2 ≠ h4))
    (h7 : Aside0 (h4 ≠ h2))
    (k3 : Aside0 (k0 ≠ h4))
    (k4 : Aside0 (h4 ≠ k0))
    (k6 : Aside0 (k1 ≠ h4))
    (k7 : Aside0 (h4 ≠ k1))
    (gr9 gs0 : Aside0 (Array.size (World.heap w) ≤ k2))
    (c6 : Aside0 (e9 ≠ k2))
    (c7 : Aside0 (k2 ≠ e9))
    (m0 : Aside0 (h2 ≠ k2))
    (m1 : Aside0 (k2 ≠ h2))
    (s4 : Aside0 (k0 ≠ k2))
    (s5 : Aside0 (k2 ≠ k0))
    (s6 : Aside0 (k1 ≠ k2))
    (s7 : Aside0 (k2 ≠ k1))
    (l5 : Aside0 (h4 ≠ k2))
    (l6 : Aside0 (k2 ≠ h4))
    (gt9 gu0 : Aside0 (Array.size (World.heap w) ≤ g9))
    (d9 : Aside0 (e9 ≠ g9))
    (e0 : Aside0 (g9 ≠ e9))
    (s8 : Aside0 (h2 ≠ g9))
    (s9 : Aside0 (g9 ≠ h2))
    (u0 : Aside0 (k0 ≠ g9))
    (u1 : Aside0 (g9 ≠ k0))
    (u2 : Aside0 (k1 ≠ g9))
    (u3 : Aside0 (g9 ≠ k1))
    (j1 : Aside0 (h4 ≠ g9))
    (j2 : Aside0 (g9 ≠ h4))
    (q0 : Aside0 (k2 ≠ g9))
    (q1 : Aside0 (g9 ≠ k2))
    (gv3 gv4 : Aside0 (Array.size (World.heap w) ≤ e3))
    (e1 : Aside0 (e9 ≠ e3))
    (e2 : Aside0 (e3 ≠ e9))
    (u4 : Aside0 (h2 ≠ e3))
    (u5 : Aside0 (e3 ≠ h2))
    (z1 : Aside0 (k0 ≠ e3))
    (z2 : Aside0 (e3 ≠ k0))
    (z3 : Aside0 (k1 ≠ e3))
    (z4 : Aside0 (e3 ≠ k1))
    (k8 : Aside0 (h4 ≠ e3))
    (k9 : Aside0 (e3 ≠ h4))
    (u6 : Aside0 (k2 ≠ e3))
    (u7 : Aside0 (e3 ≠ k2))
    (I0 : Aside0 (g9 ≠ e3))
    (I1 : Aside0 (e3 ≠ g9))
    (HA : Aside0 (j0 kq a2 a5 a6 a9 a0 C9 n7 n8 l3 l9 l4 l7 B2 a0_0 a0_1 a1_0 a1_1 a1_2 a1_3 a3_0 a3_1 a4_0 a4_1 a4_2 a4_3 a7_0 a7_1 a8_0 a8_1 a8_2 a8_3 g5 g6 g7 g8 = some r))
    (HJ20 : Aside0 (kq ≤ k))
    (b5 : Aside0 (Kd.S (Kd.slice 3 (Kd.int IntKind.i64)) 40 wc (Array.size (World.heap w)) (fun x => True) D0 a0))
    (a1 : Aside0 ((World.heap wc)[e9]? = some (Obj.cells #[Value.int IntKind.i64 a0_0, Value.int IntKind.i64 a0_1] 28)))
    (a4 : Aside0 ((World.heap wc)[h2]? = some (Obj.cells #[Value.int IntKind.i64 a1_0, Value.int IntKind.i64 a1_1, Value.bool a1_2, Value.bool a1_3] 30)))
    (a7 : Aside0 ((World.heap wc)[k0]? = some (Obj.cells #[Value.int IntKind.i64 a3_0, Value.int IntKind.i64 a3_1] 28)))
    (b0 : Aside0 ((World.heap wc)[k1]? = some (Obj.cells #[Value.int IntKind.i64 a4_0, Value.int IntKind.i64 a4_1, Value.bool a4_2, Value.bool a4_3] 30)))
    (a8 : Aside0 ((World.heap wc)[h4]? = some (Obj.cells #[Value.int IntKind.i64 a7_0, Value.int IntKind.i64 a7_1] 28)))
    (b1 : Aside0 ((World.heap wc)[k2]? = some (Obj.cells #[Value.int IntKind.i64 a8_0, Value.int IntKind.i64 a8_1, Value.bool a8_2, Value.bool a8_3] 30)))
    (b2 : Aside0 ((World.heap wc)[g9]? = some (Obj.cells #[Value.int IntKind.i64 g5, Value.int IntKind.i64 g6, Value.bool g7, Value.bool g8] 30)))
    (b3 : Aside0 ((World.heap wc)[e3]? = some (Obj.cells #[Value.int IntKind.i64 h8, Value.int IntKind.i64 h9, Value.bool i0, Value.bool i1] 30)))
    (HB : Aside0 (Below (Array.size (World.heap w)) w wc)),
    ∀ K : Act → World → Prop, (∀ a w', Code.wp Try.prog laws_FnBeamsGoOfAll.restCode1 (bodyPost Try.prog Try.f5 fun e w' => e = .returned (.bool r) ∧ Below w.heap.size w w') a w' → K a w') →
    Code.wp Try.prog laws_FnBeamsGoOfAll.testCode1 (Exit.then K (bodyPost Try.prog Try.f5 fun e w' => e = .returned (.bool r) ∧ Below w.heap.size w w'))
    {
      tmps :=
        #[Value.agg #[Value.int IntKind.i64 a0_0, Value.int IntKind.i64 a0_1],
          Value.agg #[Value.int IntKind.i64 a1_0, Value.int IntKind.i64 a1_1, Value.bool a1_2, Value.bool a1_3],
          Value.int IntKind.i64 a2, Value.agg #[Value.int IntKind.i64 a3_0, Value.int IntKind.i64 a3_1],
          Value.agg #[Value.int IntKind.i64 a4_0, Value.int IntKind.i64 a4_1, Value.bool a4_2, Value.bool a4_3],
          Value.int IntKind.i64 a5, Value.int IntKind.i64 a6,
          Value.agg #[Value.int IntKind.i64 a7_0, Value.int IntKind.i64 a7_1],
          Value.agg #[Value.int IntKind.i64 a8_0, Value.int IntKind.i64 a8_1, Value.bool a8_2, Value.bool a8_3],
          Value.int IntKind.i64 a9, Value.pointer (some { block := e9, off := 0 }),
          Value.pointer (some { block := h2, off := 0 }), undef, Value.pointer (some { block := k0, off := 0 }),
          Value.pointer (some { block := k1, off := 0 }), undef, undef, Value.pointer (some { block := h4, off := 0 }),
          Value.pointer (some { block := k2, off := 0 }), undef, Value.bool false, D0, Value.bool C9, b67,
          Value.bool b50, Value.int IntKind.i64 n7, Value.bool n8, Value.int IntKind.i64 b53, Value.bool b54,
          Value.int IntKind.i64 l3, Value.bool l9, Value.int IntKind.i64 b57, Value.bool b58, Value.int IntKind.i64 l4,
          Value.bool l7, Value.int IntKind.i64 b61, Value.bool b62, Value.pointer (some { block := g9, off := 0 }),
          Value.bool ae1, Value.pointer (some { block := e3, off := 0 }), Value.bool b65, undef, undef, undef, undef,
          undef, undef, undef, undef, undef, undef, undef, undef, undef, undef, undef, undef, undef, undef, undef,
          undef, undef, undef, undef, undef, undef, undef, undef, undef, undef, undef, undef, undef, undef, undef,
          undef, undef, undef, undef, undef, undef, undef, undef, undef, undef, undef, Value.tuple #[D0, Value.bool C9],
          Value.agg #[Value.int IntKind.i64 a0_0, Value.int IntKind.i64 a0_1],
          Value.agg #[Value.int IntKind.i64 a1_0, Value.int IntKind.i64 a1_1, Value.bool a1_2, Value.bool a1_3],
          Value.int IntKind.i64 a2, Value.tuple #[D0, Value.bool C9], D0, Value.bool C9,
          Value.tuple #[b67, Value.bool b50], Value.agg #[Value.int IntKind.i64 a0_0, Value.int IntKind.i64 a0_1],
          Value.agg #[Value.int IntKind.i64 a1_0, Value.int IntKind.i64 a1_1, Value.bool a1_2, Value.bool a1_3],
          Value.int IntKind.i64 a2, Value.tuple #[b67, Value.bool b50], b67, Value.bool b50,
          Value.tuple #[Value.int IntKind.i64 n7, Value.bool n8],
          Value.agg #[Value.int IntKind.i64 a0_0, Value.int IntKind.i64 a0_1],
          Value.agg #[Value.int IntKind.i64 a1_0, Value.int IntKind.i64 a1_1, Value.bool a1_2, Value.bool a1_3],
          Value.tuple #[Value.int IntKind.i64 n7, Value.bool n8], Value.int IntKind.i64 n7, Value.bool n8,
          Value.tuple #[Value.int IntKind.i64 b53, Value.bool b54],
          Value.agg #[Value.int IntKind.i64 a0_0, Value.int IntKind.i64 a0_1],
          Value.agg #[Value.int IntKind.i64 a1_0, Value.int IntKind.i64 a1_1, Value.bool a1_2, Value.bool a1_3],
          Value.tuple #[Value.int IntKind.i64 b53, Value.bool b54], Value.int IntKind.i64 b53, Value.bool b54,
          Value.tuple #[Value.int IntKind.i64 l3, Value.bool l9],
          Value.agg #[Value.int IntKind.i64 a0_0, Value.int IntKind.i64 a0_1],
          Value.agg #[Value.int IntKind.i64 a1_0, Value.int IntKind.i64 a1_1, Value.bool a1_2, Value.bool a1_3],
          Value.tuple #[Value.int IntKind.i64 l3, Value.bool l9], Value.int IntKind.i64 l3, Value.bool l9,
          Value.tuple #[Value.int IntKind.i64 b57, Value.bool b58],
          Value.agg #[Value.int IntKind.i64 a0_0, Value.int IntKind.i64 a0_1],
          Value.agg #[Value.int IntKind.i64 a1_0, Value.int IntKind.i64 a1_1, Value.bool a1_2, Value.bool a1_3],
          Value.tuple #[Value.int IntKind.i64 b57, Value.bool b58], Value.int IntKind.i64 b57, Value.bool b58,
          Value.tuple #[Value.int IntKind.i64 l4, Value.bool l7],
          Value.agg #[Value.int IntKind.i64 a0_0, Value.int IntKind.i64 a0_1],
          Value.agg #[Value.int IntKind.i64 a1_0, Value.int IntKind.i64 a1_1, Value.bool a1_2, Value.bool a1_3],
          Value.tuple #[Value.int IntKind.i64 l4, Value.bool l7], Value.int IntKind.i64 l4, Value.bool l7,
          Value.tuple #[Value.int IntKind.i64 b61, Value.bool b62],
          Value.agg #[Value.int IntKind.i64 a0_0, Value.int IntKind.i64 a0_1],
          Value.agg #[Value.int IntKind.i64 a1_0, Value.int IntKind.i64 a1_1, Value.bool a1_2, Value.bool a1_3],
          Value.tuple #[Value.int IntKind.i64 b61, Value.bool b62], Value.int IntKind.i64 b61, Value.bool b62,
          Value.tuple
            #[Value.agg #[Value.int IntKind.i64 g5, Value.int IntKind.i64 g6, Value.bool g7, Value.bool g8],
              Value.bool ae1],
          Value.agg #[Value.int IntKind.i64 a0_0, Value.int IntKind.i64 a0_1],
          Value.agg #[Value.int IntKind.i64 a1_0, Value.int IntKind.i64 a1_1, Value.bool a1_2, Value.bool a1_3],
          Value.tuple
            #[Value.agg #[Value.int IntKind.i64 g5, Value.int IntKind.i64 g6, Value.bool g7, Value.bool g8],
              Value.bool ae1],
          Value.agg #[Value.int IntKind.i64 g5, Value.int IntKind.i64 g6, Value.bool g7, Value.bool g8], Value.bool ae1,
          Value.tuple
            #[Value.agg #[Value.int IntKind.i64 h8, Value.int IntKind.i64 h9, Value.bool i0, Value.bool i1],
              Value.bool b65],
          Value.agg #[Value.int IntKind.i64 a0_0, Value.int IntKind.i64 a0_1],
          Value.agg #[Value.int IntKind.i64 a1_0, Value.int IntKind.i64 a1_1, Value.bool a1_2, Value.bool a1_3],
          Value.tuple
            #[Value.agg #[Value.int IntKind.i64 h8, Value.int IntKind.i64 h9, Value.bool i0, Value.bool i1],
              Value.bool b65],
          Value.agg #[Value.int IntKind.i64 h8, Value.int IntKind.i64 h9, Value.bool i0, Value.bool i1], Value.bool b65,
          u148, u149, u150, u151, u152, u153, u154, u155, u156, u157, u158, u159, u160, u161, u162, u163, u164, u165,
          u166, u167, u168, u169, u170, u171, u172, u173, u174, u175, u176, u177, u178, u179, u180, u181, u182, u183,
          u184, u185, u186, u187, u188, u189, u190, u191, u192, u193, u194, u195, u196, u197, u198, u199, u200, u201,
          u202, u203, u204, u205, u206, u207, u208, u209, u210, u211, u212, u213, u214, u215, u216, u217, u218, u219,
          u220, u221, u222, u223, u224, u225, u226, u227, u228, u229, u230, u231, u232, u233, u234, u235, u236, u237,
          u238, u239, u240, u241, u242, u243, u244, u245, u246, u247, u248, u249, u250, u251, u252, u253, u254,
          Value.bool B2, undef, undef, undef, undef, undef, undef, undef, undef, undef, undef, undef, undef, undef,
          undef, undef, undef, undef, undef, undef, undef, undef, undef, undef, undef, undef, undef, undef, undef,
          undef, undef, undef, undef, undef, undef, undef, undef, undef, undef, undef, undef, undef, undef, undef,
          undef, undef, undef, undef, undef, undef, undef, undef, undef, undef, undef, undef, undef, undef, undef,
          undef, undef, undef, undef, undef, undef, undef, undef, undef, undef, undef, undef, undef, undef, undef,
          undef, undef, undef, undef, undef, undef, undef, undef, undef, undef, undef, undef, undef, undef, undef,
          undef, undef, undef, undef, undef, undef, undef, undef, undef, undef, undef, undef, undef, undef, undef,
          undef, undef, undef, undef, undef, undef, undef, undef, undef, undef, undef, undef, undef, undef, undef,
          undef, undef, undef, undef, undef, undef, undef, undef, undef, undef, undef, undef, undef, undef, undef,
          undef, undef, undef, undef, undef, undef, undef, undef, undef, undef, undef, undef, undef, undef, undef,
          undef, undef, undef, undef, undef, undef, undef, undef, undef, undef, undef, undef, undef, undef, undef,
          undef, undef, undef, undef, undef, undef, undef, undef, undef, undef, undef, undef, undef, undef, undef,
          undef, undef, undef, undef, undef, undef, undef, undef, undef, undef, undef, undef, undef, undef, undef,
          undef, undef, undef, undef, undef, undef, undef, undef, undef, undef, undef, undef, undef, undef, undef,
          undef, undef, undef, undef, undef, undef, undef, undef, undef, undef, undef, undef, undef, undef, undef,
          undef, undef, undef, undef, undef, undef, undef, undef, undef, undef, undef, undef, undef, undef, undef,
          undef, undef, undef, undef, undef, undef, undef, undef, undef, undef, undef, undef, undef, undef, undef,
          undef, undef, undef, undef, undef, undef, undef, undef, undef, undef, undef, undef, undef, undef, undef,
          undef, undef, undef, undef, undef, undef, undef, undef, undef, undef, undef, undef, undef, undef, undef,
          undef, undef, undef, undef, undef, undef, undef, undef, undef, undef, undef, undef, undef, undef, undef,
          undef, undef, undef, undef, undef, undef, undef, undef, undef, undef, undef, undef, undef, undef, undef,
          undef, undef, undef, undef, undef, undef, undef, undef, undef, undef, undef, undef, undef, undef, undef,
          undef, undef, undef, undef, undef, undef, undef, undef, undef, undef, undef, undef, undef, undef, undef,
          undef, undef, undef, undef, undef, undef, undef, undef, undef, undef, undef, undef, undef, undef, undef,
          undef, undef, undef, undef, undef, undef, undef, undef, undef, undef, undef, undef, undef, undef, undef,
          undef, undef, undef, undef, undef, undef, undef, undef, undef, undef, undef, undef, undef, undef, undef,
          undef, undef, undef, undef, undef, undef, undef, undef, undef, undef, undef, undef, undef, undef, undef,
          undef, undef, undef, undef, undef, undef, undef, undef, undef, undef, undef, undef, undef, undef, undef,
          undef, undef, undef, undef, undef, undef, undef, undef, undef, undef, undef, undef, undef, undef, undef,
          undef, undef, undef, undef, undef, undef, undef, undef, undef, undef, undef, undef, undef, undef, undef,
          undef, undef, undef, undef, undef, undef, undef, undef, undef, undef, undef, undef, undef, undef, undef,
          undef, undef, undef, undef, undef, undef, undef, undef, undef, undef, undef, undef, undef, undef, undef,
          undef, undef, undef, undef, undef, undef, undef, undef, undef, undef, undef, undef, undef, undef, undef,
          undef, undef, undef, undef, undef, undef, undef, undef, undef, undef, undef, undef, undef, undef, undef,
          undef, undef, undef, undef, undef, undef, undef, undef, undef, undef, undef, undef, undef, undef, undef,
          undef, undef, undef, undef, undef, undef, undef, undef, undef, undef, undef, undef, undef, undef, undef,
          undef, undef, undef, undef, undef, undef, undef, undef, undef, undef, undef, undef, undef, undef, undef,
          undef, undef, undef, undef, undef, undef, undef, undef],
      defers := [] }
    wc
/-- The code behind cut 2. -/
noncomputable def laws_FnBeamsGoOfAll.restCode2 : Code := (cr (cr (cr (cr (cr (cr (cr (cr (cr (cr (cr (cr (cr (Try.f5.body.getD .skip))))))))))))))
/-- What it answers. -/
def laws_FnBeamsGoOfAll.RestSaid2 : Prop := ∀ (k : Nat) (a0_0 a0_1 a1_0 a1_1 : Int) (a1_2 a1_3 : Bool) (a2 a3_0 a3_1 a4_0 a4_1 : Int) (a4_2 a4_3 : Bool) (a5 a6 a7_0 a7_1 a8_0 a8_1 : Int) (a8_2 a8_3 : Bool) (a9 : Int) (r : Bool) (w : World) (a0 : List (List Int)) (C9 : Bool) (P1 : List (List Int)) (b50 : Bool) (n7 : Int) (n8 : Bool) (b53 : Int) (b54 : Bool) (l3 : Int) (l9 : Bool) (b57 : Int) (b58 : Bool) (l4 : Int) (l7 : Bool) (b61 : Int) (b62 : Bool) (g5 g6 : Int) (g7 g8 ae1 : Bool) (h8 h9 : Int) (i0 i1 b65 : Bool) (e9 : Nat) (h2 : Nat) (k0 : Nat) (k1 : Nat) (h4 : Nat) (k2 : Nat) (D0 : Value) (b67 : Value) (g9 : Nat) (e3 : Nat) (u148 u149 u150 u151 u152 u153 u154 u155 u156 u157 u158 u159 u160 u161 u162 u163 u164 u165 u166 u167 u168 u169 u170 u171 u172 u173 u174 u175 u176 u177 u178 u179 u180 u181 u182 u183 u184 u185 u186 u187 u188 u189 u190 u191 u192 u193 u194 u195 u196 u197 u198 u199 u200 u201 u202 u203 u204 u205 u206 u207 u208 u209 u210 u211 u212 u213 u214 u215 u216 u217 u218 u219 u220 u221 u222 u223 u224 u225 u226 u227 u228 u229 u230 u231 u232 u233 u234 u235 u236 u237 u238 u239 u240 u241 u242 u243 u244 u245 u246 u247 u248 u249 u250 u251 u252 u253 u254 : Value) (b76 : Nat) (wc : World) (u20 u41 u42 u43 u44 u45 u46 u47 u48 u49 u50 u51 u52 u256 u257 u258 u259 u260 u261 u262 u263 u264 u265 u266 u267 u268 u269 u270 u271 u272 u273 u274 u275 u276 u277 u278 u279 u280 u281 u282 u283 u284 u285 u286 u287 u288 u289 u290 u291 u292 u293 u294 u295 u296 u297 u298 u299 u300 u301 u302 u303 u304 u305 u306 u307 u308 u309 u310 u311 u312 u313 u314 u315 u316 u317 u318 u319 u320 u321 u322 u323 u324 u325 u326 u327 u328 u329 u330 u331 u332 u333 u334 u335 u336 u337 u338 u339 u340 u341 u342 u343 u344 u345 u346 u347 u348 u349 u350 u351 u352 u353 u354 u355 u356 u357 u358 u359 u360 u361 u362 u363 u364 u365 u366 u367 u368 u369 u370 u371 u372 u373 u374 u375 u376 u377 u378 u379 u380 u381 u382 u383 u384 u385 u386 u387 u388 u389 u390 u391 u392 u393 u394 u395 u396 u397 u398 u399 u400 u401 u402 u403 u404 u405 u406 u407 u408 u409 u410 u411 u412 u413 u414 u415 u416 u417 u418 u419 u420 u421 u422 u423 u424 u425 u426 u427 u428 u429 u430 u431 u432 u433 u434 u435 u436 u437 u438 u439 u440 u441 u442 u443 u444 u445 u446 u447 u448 u449 u450 u451 u452 u453 u454 u455 u456 u457 u458 u459 u460 u461 u462 u463 u464 u465 u466 u467 u468 u469 u470 u471 u472 u473 u474 u475 u476 u477 u478 u479 u480 u481 u482 u483 u484 u485 u486 u487 u488 u489 u490 u491 u492 u493 u494 u495 u496 u497 u498 u499 u500 u501 u502 u503 u504 u505 u506 u507 u508 u509 u510 u511 u512 u513 : Value) (kq : Nat)
    (HT_l : Aside0 (r = true))
    (A11 : Aside0 (impl_PlacesOfBeam.f a0_0 a0_1 a1_0 a1_1 a1_2 a1_3 a2 = some (a0, C9)))
    (A12 : Aside0 (spec_PlacesOfBeam.f k a0_0 a0_1 a1_0 a1_1 a1_2 a1_3 a2 = some (P1, b50)))
    (A13 : Aside0 (impl_StepsToCorner.f a0_0 a0_1 a1_0 a1_1 a1_2 a1_3 = some (n7, n8)))
    (A14 : Aside0 (spec_StepsToCorner.f k a0_0 a0_1 a1_0 a1_1 a1_2 a1_3 = some (b53, b54)))
    (A15 : Aside0 (impl_PeriodOfBeam.f a0_0 a0_1 a1_0 a1_1 a1_2 a1_3 = some (l3, l9)))
    (A16 : Aside0 (spec_PeriodOfBeam.f k a0_0 a0_1 a1_0 a1_1 a1_2 a1_3 = some (b57, b58)))
    (A17 : Aside0 (impl_CountPlaces.f a0_0 a0_1 a1_0 a1_1 a1_2 a1_3 = some (l4, l7)))
    (A18 : Aside0 (spec_CountPlaces.f k a0_0 a0_1 a1_0 a1_1 a1_2 a1_3 = some (b61, b62)))
    (A19 : Aside0 (impl_BackBeam.f a0_0 a0_1 a1_0 a1_1 a1_2 a1_3 = some (g5, g6, g7, g8, ae1)))
    (A20 : Aside0 (spec_BackBeam.f a0_0 a0_1 a1_0 a1_1 a1_2 a1_3 = some (h8, h9, i0, i1, b65)))
    (gq9 gr0 : Aside0 (Array.size (World.heap w) ≤ e9))
    (gr1 gr2 : Aside0 (Array.size (World.heap w) ≤ h2))
    (d6 : Aside0 (e9 ≠ h2))
    (d7 : Aside0 (h2 ≠ e9))
    (gr3 gr4 : Aside0 (Array.size (World.heap w) ≤ k0))
    (d1 : Aside0 (e9 ≠ k0))
    (d2 : Aside0 (k0 ≠ e9))
    (o1 : Aside0 (h2 ≠ k0))
    (o2 : Aside0 (k0 ≠ h2))
    (gr5 gr6 : Aside0 (Array.size (World.heap w) ≤ k1))
    (d3 : Aside0 (e9 ≠ k1))
    (d4 : Aside0 (k1 ≠ e9))
    (o3 : Aside0 (h2 ≠ k1))
    (o4 : Aside0 (k1 ≠ h2))
    (G8 : Aside0 (k0 ≠ k1))
    (G9 : Aside0 (k1 ≠ k0))
    (gr7 gr8 : Aside0 (Array.size (World.heap w) ≤ h4))
    (c2 : Aside0 (e9 ≠ h4))
    (c3 : Aside0 (h4 ≠ e9))
    (h6 : Aside0 (h2 ≠ h4))
    (h7 : Aside0 (h4 ≠ h2))
    (k3 : Aside0 (k0 ≠ h4))
    (k4 : Aside0 (h4 ≠ k0))
    (k6 : Aside0 (k1 ≠ h4))
    (k7 : Aside0 (h4 ≠ k1))
    (gr9 gs0 : Aside0 (Array.size (World.heap w) ≤ k2))
    (c6 : Aside0 (e9 ≠ k2))
    (c7 : Aside0 (k2 ≠ e9))
    (m0 : Aside0 (h2 ≠ k2))
    (m1 : Aside0 (k2 ≠ h2))
    (s4 : Aside0 (k0 ≠ k2))
    (s5 : Aside0 (k2 ≠ k0))
    (s6 : Aside0 (k1 ≠ k2))
    (s7 : Aside0 (k2 ≠ k1))
    (l5 : Aside0 (h4 ≠ k2))
    (l6 : Aside0 (k2 ≠ h4))
    (gt9 gu0 : Aside0 (Array.size (World.heap w) ≤ g9))
    (d9 : Aside0 (e9 ≠ g9))
    (e0 : Aside0 (g9 ≠ e9))
    (s8 : Aside0 (h2 ≠ g9))
    (s9 : Aside0 (g9 ≠ h2))
    (u0 : Aside0 (k0 ≠ g9))
    (u1 : Aside0 (g9 ≠ k0))
    (u2 : Aside0 (k1 ≠ g9))
    (u3 : Aside0 (g9 ≠ k1))
    (j1 : Aside0 (h4 ≠ g9))
    (j2 : Aside0 (g9 ≠ h4))
    (q0 : Aside0 (k2 ≠ g9))
    (q1 : Aside0 (g9 ≠ k2))
    (gv3 gv4 : Aside0 (Array.size (World.heap w) ≤ e3))
    (e1 : Aside0 (e9 ≠ e3))
    (e2 : Aside0 (e3 ≠ e9))
    (u4 : Aside0 (h2 ≠ e3))
    (u5 : Aside0 (e3 ≠ h2))
    (z1 : Aside0 (k0 ≠ e3))
    (z2 : Aside0 (e3 ≠ k0))
    (z3 : Aside0 (k1 ≠ e3))
    (z4 : Aside0 (e3 ≠ k1))
    (k8 : Aside0 (h4 ≠ e3))
    (k9 : Aside0 (e3 ≠ h4))
    (u6 : Aside0 (k2 ≠ e3))
    (u7 : Aside0 (e3 ≠ k2))
    (I0 : Aside0 (g9 ≠ e3))
    (I1 : Aside0 (e3 ≠ g9))
    (HJ20 : Aside0 (b76 + 1 ≤ k))
    (HA : Aside0 (j10 kq a5 a6 a9 l3 l9 l4 l7 a0_0 a0_1 a1_0 a1_1 a1_2 a1_3 a3_0 a3_1 a4_0 a4_1 a4_2 a4_3 a7_0 a7_1 a8_0 a8_1 a8_2 a8_3 g5 g6 g7 g8 = some r))
    (HJ152 : Aside0 (kq ≤ b76))
    (a1 : Aside0 ((World.heap wc)[e9]? = some (Obj.cells #[Value.int IntKind.i64 a0_0, Value.int IntKind.i64 a0_1] 28)))
    (a4 : Aside0 ((World.heap wc)[h2]? = some (Obj.cells #[Value.int IntKind.i64 a1_0, Value.int IntKind.i64 a1_1, Value.bool a1_2, Value.bool a1_3] 30)))
    (a7 : Aside0 ((World.heap wc)[k0]? = some (Obj.cells #[Value.int IntKind.i64 a3_0, Value.int IntKind.i64 a3_1] 28)))
    (b0 : Aside0 ((World.heap wc)[k1]? = some (Obj.cells #[Value.int IntKind.i64 a4_0, Value.int IntKind.i64 a4_1, Value.bool a4_2, Value.bool a4_3] 30)))
    (a8 : Aside0 ((World.heap wc)[h4]? = some (Obj.cells #[Value.int IntKind.i64 a7_0, Value.int IntKind.i64 a7_1] 28)))
    (b1 : Aside0 ((World.heap wc)[k2]? = some (Obj.cells #[Value.int IntKind.i64 a8_0, Value.int IntKind.i64 a8_1, Value.bool a8_2, Value.bool a8_3] 30)))
    (b2 : Aside0 ((World.heap wc)[g9]? = some (Obj.cells #[Value.int IntKind.i64 g5, Value.int IntKind.i64 g6, Value.bool g7, Value.bool g8] 30)))
    (b3 : Aside0 ((World.heap wc)[e3]? = some (Obj.cells #[Value.int IntKind.i64 h8, Value.int IntKind.i64 h9, Value.bool i0, Value.bool i1] 30)))
    (HB : Aside0 (Below (Array.size (World.heap w)) w wc)),
    Code.wp Try.prog laws_FnBeamsGoOfAll.restCode2 (bodyPost Try.prog Try.f5 fun e w' => e = .returned (.bool r) ∧ Below w.heap.size w w')
    {
      tmps :=
        #[Value.agg #[Value.int IntKind.i64 a0_0, Value.int IntKind.i64 a0_1],
          Value.agg #[Value.int IntKind.i64 a1_0, Value.int IntKind.i64 a1_1, Value.bool a1_2, Value.bool a1_3],
          Value.int IntKind.i64 a2, Value.agg #[Value.int IntKind.i64 a3_0, Value.int IntKind.i64 a3_1],
          Value.agg #[Value.int IntKind.i64 a4_0, Value.int IntKind.i64 a4_1, Value.bool a4_2, Value.bool a4_3],
          Value.int IntKind.i64 a5, Value.int IntKind.i64 a6,
          Value.agg #[Value.int IntKind.i64 a7_0, Value.int IntKind.i64 a7_1],
          Value.agg #[Value.int IntKind.i64 a8_0, Value.int IntKind.i64 a8_1, Value.bool a8_2, Value.bool a8_3],
          Value.int IntKind.i64 a9, Value.pointer (some { block := e9, off := 0 }),
          Value.pointer (some { block := h2, off := 0 }), undef, Value.pointer (some { block := k0, off := 0 }),
          Value.pointer (some { block := k1, off := 0 }), undef, undef, Value.pointer (some { block := h4, off := 0 }),
          Value.pointer (some { block := k2, off := 0 }), undef, u20, D0, Value.bool C9, b67, Value.bool b50,
          Value.int IntKind.i64 n7, Value.bool n8, Value.int IntKind.i64 b53, Value.bool b54, Value.int IntKind.i64 l3,
          Value.bool l9, Value.int IntKind.i64 b57, Value.bool b58, Value.int IntKind.i64 l4, Value.bool l7,
          Value.int IntKind.i64 b61, Value.bool b62, Value.pointer (some { block := g9, off := 0 }), Value.bool ae1,
          Value.pointer (some { block := e3, off := 0 }), Value.bool b65, u41, u42, u43, u44, u45, u46, u47, u48, u49,
          u50, u51, u52, undef, undef, undef, undef, undef, undef, undef, undef, undef, undef, undef, undef, undef,
          undef, undef, undef, undef, undef, undef, undef, undef, undef, undef, undef, undef, undef, undef, undef,
          undef, undef, undef, undef, undef, Value.tuple #[D0, Value.bool C9],
          Value.agg #[Value.int IntKind.i64 a0_0, Value.int IntKind.i64 a0_1],
          Value.agg #[Value.int IntKind.i64 a1_0, Value.int IntKind.i64 a1_1, Value.bool a1_2, Value.bool a1_3],
          Value.int IntKind.i64 a2, Value.tuple #[D0, Value.bool C9], D0, Value.bool C9,
          Value.tuple #[b67, Value.bool b50], Value.agg #[Value.int IntKind.i64 a0_0, Value.int IntKind.i64 a0_1],
          Value.agg #[Value.int IntKind.i64 a1_0, Value.int IntKind.i64 a1_1, Value.bool a1_2, Value.bool a1_3],
          Value.int IntKind.i64 a2, Value.tuple #[b67, Value.bool b50], b67, Value.bool b50,
          Value.tuple #[Value.int IntKind.i64 n7, Value.bool n8],
          Value.agg #[Value.int IntKind.i64 a0_0, Value.int IntKind.i64 a0_1],
          Value.agg #[Value.int IntKind.i64 a1_0, Value.int IntKind.i64 a1_1, Value.bool a1_2, Value.bool a1_3],
          Value.tuple #[Value.int IntKind.i64 n7, Value.bool n8], Value.int IntKind.i64 n7, Value.bool n8,
          Value.tuple #[Value.int IntKind.i64 b53, Value.bool b54],
          Value.agg #[Value.int IntKind.i64 a0_0, Value.int IntKind.i64 a0_1],
          Value.agg #[Value.int IntKind.i64 a1_0, Value.int IntKind.i64 a1_1, Value.bool a1_2, Value.bool a1_3],
          Value.tuple #[Value.int IntKind.i64 b53, Value.bool b54], Value.int IntKind.i64 b53, Value.bool b54,
          Value.tuple #[Value.int IntKind.i64 l3, Value.bool l9],
          Value.agg #[Value.int IntKind.i64 a0_0, Value.int IntKind.i64 a0_1],
          Value.agg #[Value.int IntKind.i64 a1_0, Value.int IntKind.i64 a1_1, Value.bool a1_2, Value.bool a1_3],
          Value.tuple #[Value.int IntKind.i64 l3, Value.bool l9], Value.int IntKind.i64 l3, Value.bool l9,
          Value.tuple #[Value.int IntKind.i64 b57, Value.bool b58],
          Value.agg #[Value.int IntKind.i64 a0_0, Value.int IntKind.i64 a0_1],
          Value.agg #[Value.int IntKind.i64 a1_0, Value.int IntKind.i64 a1_1, Value.bool a1_2, Value.bool a1_3],
          Value.tuple #[Value.int IntKind.i64 b57, Value.bool b58], Value.int IntKind.i64 b57, Value.bool b58,
          Value.tuple #[Value.int IntKind.i64 l4, Value.bool l7],
          Value.agg #[Value.int IntKind.i64 a0_0, Value.int IntKind.i64 a0_1],
          Value.agg #[Value.int IntKind.i64 a1_0, Value.int IntKind.i64 a1_1, Value.bool a1_2, Value.bool a1_3],
          Value.tuple #[Value.int IntKind.i64 l4, Value.bool l7], Value.int IntKind.i64 l4, Value.bool l7,
          Value.tuple #[Value.int IntKind.i64 b61, Value.bool b62],
          Value.agg #[Value.int IntKind.i64 a0_0, Value.int IntKind.i64 a0_1],
          Value.agg #[Value.int IntKind.i64 a1_0, Value.int IntKind.i64 a1_1, Value.bool a1_2, Value.bool a1_3],
          Value.tuple #[Value.int IntKind.i64 b61, Value.bool b62], Value.int IntKind.i64 b61, Value.bool b62,
          Value.tuple
            #[Value.agg #[Value.int IntKind.i64 g5, Value.int IntKind.i64 g6, Value.bool g7, Value.bool g8],
              Value.bool ae1],
          Value.agg #[Value.int IntKind.i64 a0_0, Value.int IntKind.i64 a0_1],
          Value.agg #[Value.int IntKind.i64 a1_0, Value.int IntKind.i64 a1_1, Value.bool a1_2, Value.bool a1_3],
          Value.tuple
            #[Value.agg #[Value.int IntKind.i64 g5, Value.int IntKind.i64 g6, Value.bool g7, Value.bool g8],
              Value.bool ae1],
          Value.agg #[Value.int IntKind.i64 g5, Value.int IntKind.i64 g6, Value.bool g7, Value.bool g8], Value.bool ae1,
          Value.tuple
            #[Value.agg #[Value.int IntKind.i64 h8, Value.int IntKind.i64 h9, Value.bool i0, Value.bool i1],
              Value.bool b65],
          Value.agg #[Value.int IntKind.i64 a0_0, Value.int IntKind.i64 a0_1],
          Value.agg #[Value.int IntKind.i64 a1_0, Value.int IntKind.i64 a1_1, Value.bool a1_2, Value.bool a1_3],
          Value.tuple
            #[Value.agg #[Value.int IntKind.i64 h8, Value.int IntKind.i64 h9, Value.bool i0, Value.bool i1],
              Value.bool b65],
          Value.agg #[Value.int IntKind.i64 h8, Value.int IntKind.i64 h9, Value.bool i0, Value.bool i1], Value.bool b65,
          u148, u149, u150, u151, u152, u153, u154, u155, u156, u157, u158, u159, u160, u161, u162, u163, u164, u165,
          u166, u167, u168, u169, u170, u171, u172, u173, u174, u175, u176, u177, u178, u179, u180, u181, u182, u183,
          u184, u185, u186, u187, u188, u189, u190, u191, u192, u193, u194, u195, u196, u197, u198, u199, u200, u201,
          u202, u203, u204, u205, u206, u207, u208, u209, u210, u211, u212, u213, u214, u215, u216, u217, u218, u219,
          u220, u221, u222, u223, u224, u225, u226, u227, u228, u229, u230, u231, u232, u233, u234, u235, u236, u237,
          u238, u239, u240, u241, u242, u243, u244, u245, u246, u247, u248, u249, u250, u251, u252, u253, u254,
          Value.bool false, u256, u257, u258, u259, u260, u261, u262, u263, u264, u265, u266, u267, u268, u269, u270,
          u271, u272, u273, u274, u275, u276, u277, u278, u279, u280, u281, u282, u283, u284, u285, u286, u287, u288,
          u289, u290, u291, u292, u293, u294, u295, u296, u297, u298, u299, u300, u301, u302, u303, u304, u305, u306,
          u307, u308, u309, u310, u311, u312, u313, u314, u315, u316, u317, u318, u319, u320, u321, u322, u323, u324,
          u325, u326, u327, u328, u329, u330, u331, u332, u333, u334, u335, u336, u337, u338, u339, u340, u341, u342,
          u343, u344, u345, u346, u347, u348, u349, u350, u351, u352, u353, u354, u355, u356, u357, u358, u359, u360,
          u361, u362, u363, u364, u365, u366, u367, u368, u369, u370, u371, u372, u373, u374, u375, u376, u377, u378,
          u379, u380, u381, u382, u383, u384, u385, u386, u387, u388, u389, u390, u391, u392, u393, u394, u395, u396,
          u397, u398, u399, u400, u401, u402, u403, u404, u405, u406, u407, u408, u409, u410, u411, u412, u413, u414,
          u415, u416, u417, u418, u419, u420, u421, u422, u423, u424, u425, u426, u427, u428, u429, u430, u431, u432,
          u433, u434, u435, u436, u437, u438, u439, u440, u441, u442, u443, u444, u445, u446, u447, u448, u449, u450,
          u451, u452, u453, u454, u455, u456, u457, u458, u459, u460, u461, u462, u463, u464, u465, u466, u467, u468,
          u469, u470, u471, u472, u473, u474, u475, u476, u477, u478, u479, u480, u481, u482, u483, u484, u485, u486,
          u487, u488, u489, u490, u491, u492, u493, u494, u495, u496, u497, u498, u499, u500, u501, u502, u503, u504,
          u505, u506, u507, u508, u509, u510, u511, u512, u513, undef, undef, undef, undef, undef, undef, undef, undef,
          undef, undef, undef, undef, undef, undef, undef, undef, undef, undef, undef, undef, undef, undef, undef,
          undef, undef, undef, undef, undef, undef, undef, undef, undef, undef, undef, undef, undef, undef, undef,
          undef, undef, undef, undef, undef, undef, undef, undef, undef, undef, undef, undef, undef, undef, undef,
          undef, undef, undef, undef, undef, undef, undef, undef, undef, undef, undef, undef, undef, undef, undef,
          undef, undef, undef, undef, undef, undef, undef, undef, undef, undef, undef, undef, undef, undef, undef,
          undef, undef, undef, undef, undef, undef, undef, undef, undef, undef, undef, undef, undef, undef, undef,
          undef, undef, undef, undef, undef, undef, undef, undef, undef, undef, undef, undef, undef, undef, undef,
          undef, undef, undef, undef, undef, undef, undef, undef, undef, undef, undef, undef, undef, undef, undef,
          undef, undef, undef, undef, undef, undef, undef, undef, undef, undef, undef, undef, undef, undef, undef,
          undef, undef, undef, undef, undef, undef, undef, undef, undef, undef, undef, undef, undef, undef, undef,
          undef, undef, undef, undef, undef, undef, undef, undef, undef, undef, undef, undef, undef, undef, undef,
          undef, undef, undef, undef, undef, undef, undef, undef, undef, undef, undef, undef, undef, undef, undef,
          undef, undef, undef, undef, undef, undef, undef, undef, undef, undef, undef, undef, undef, undef, undef,
          undef, undef, undef, undef, undef, undef, undef, undef, undef, undef, undef, undef, undef, undef, undef,
          undef, undef, undef, undef, undef, undef, undef, undef, undef, undef, undef, undef, undef, undef, undef,
          undef, undef, undef, undef, undef, undef, undef, undef, undef, undef, undef, undef, undef, undef, undef,
          undef, undef, undef, undef, undef, undef, undef, undef, undef, undef, undef, undef, undef, undef, undef,
          undef, undef, undef, undef, undef, undef, undef, undef, undef, undef, undef, undef, undef, undef, undef,
          undef, undef, undef, undef, undef, undef, undef, undef, undef, undef, undef, undef, undef, undef, undef,
          undef, undef, undef, undef, undef, undef, undef, undef, undef, undef],
      defers := [] }
    wc
end Go.Proofs.Ythfbjofmcniogaa.PFnBeamsGoOfAll
