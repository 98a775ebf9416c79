-- Written by split3.py: what the rests of the law's code answer, told.
import Derived.Test.YtlmiaadpnbehgaaDoorVM
import Derived.Test.YtlmiaadpnbehgaaDoorVF
import Derived.Test.YtlmiaadpnbehgaaDoorVS
import Derived.Test.YtlmiaadpnbehgaaDoorPFnBeamsEndOfAllx0
import Derived.Test.YtlmiaadpnbehgaaDoorPFnBeamsEndOfAllx1
import Derived.Test.YtlmiaadpnbehgaaDoorPFnBeamsEndOfAllx2
import Derived.Test.YtlmiaadpnbehgaaDoorPFnBeamsEndOfAllx3
import Derived.Test.YtlmiaadpnbehgaaDoorPFnBeamsEndOfAllx6
import Derived.Test.YtlmiaadpnbehgaaDoorPFnBeamsEndOfAllx10
import Derived.Test.YtlmiaadpnbehgaaDoorPFnBeamsEndOfAllx11
import Derived.Test.YtlmiaadpnbehgaaDoorPFnBeamsEndOfAllx12
import Derived.Test.YtlmiaadpnbehgaaDoorPFnBeamsEndOfAllx13
import Derived.Test.YtlmiaadpnbehgaaDoorPFnBeamsEndOfAllx14
import Derived.Test.YtlmiaadpnbehgaaDoorPFnBeamsEndOfAllx15
import Derived.Test.YtlmiaadpnbehgaaDoorPFnBeamsEndOfAllx17
import Derived.Test.YtlmiaadpnbehgaaDoorPFnBeamsEndOfAllx18
namespace Go.Proofs.YtlmiaadpnbehgaaDoor.PFnBeamsEndOfAll
open Go.Proofs.YtlmiaadpnbehgaaDoorV Go.RowKit Go.Proofs.YtlmiaadpnbehgaaDoorW.PrintWords Go.Proofs.YtlmiaadpnbehgaaDoorW.PrintLast Go.Proofs.YtlmiaadpnbehgaaDoorW.PrintMore
attribute [local go_sem] max2_int min2_int max_two min_two max_three min_three max_four min_four   -- for this text's walks alone
attribute [local go_sem ↓] rdl_zero rdl_succ eval_lit
set_option linter.unusedVariables false
set_option linter.unusedSimpArgs false
attribute [local go_sem high] eqA23 eqA25
def cl : Code → Code
  | .seq a _ => a
  | c => c
def cr : Code → Code
  | .seq _ b => b
  | c => c
/-- The code behind cut 1. -/
noncomputable def laws_FnBeamsEndOfAll.restCode1 : Code := (cr (cr (cr (cr (cr (cr (cr (cr (cr (cr (cr (cr (Tryd.f3.body.getD .skip)))))))))))))
/-- What it answers. -/
def laws_FnBeamsEndOfAll.RestSaid1 : Prop := ∀ (k : Nat) (a0_0 a0_1 a1_0 a1_1 : Int) (a1_2 a1_3 : Bool) (a2_0 a2_1 a3 : Int) (a4 : ByteArray) (r : Bool) (w : World) (b5 : Int) (j1 : Bool) (S5 : Int) (S6 : Bool) (h3 g5 : Int) (A0 : Bool) (S9 T0 : Int) (T1 : Bool) (c3 : Int) (A1 : Bool) (T4 : Int) (T5 : Bool) (d4 : Int) (A2 : Bool) (T8 : Int) (T9 : Bool) (c4 : Nat) (g8 : Nat) (b9 : Nat) (u129 u130 u131 u132 u133 u134 u135 u136 u137 u138 u139 u140 u141 u142 u143 u144 u145 u146 u147 u148 u149 u150 u151 u152 u153 u154 u155 u156 u157 u158 u159 u160 u161 u162 u163 u164 u165 u166 u167 u168 u169 u170 u171 u172 u173 u174 u175 u176 u177 u178 u179 u180 u181 u182 u183 u184 u185 : Value) (b0 : Nat) (wc : World) (u10 u29 u30 u31 u32 u33 u34 u187 u188 u189 u190 u191 u192 u193 u194 u195 u196 u197 u198 u199 u200 u201 u202 u203 u204 u205 u206 u207 u208 u209 u210 u211 u212 u213 u214 u215 u216 u217 u218 u219 u220 u221 u222 u223 u224 u225 u226 u227 u228 u229 u230 u231 u232 u233 u234 u235 u236 u237 u238 u239 u240 u241 u242 u243 u244 u245 u246 u247 u248 u249 u250 u251 u252 u253 u254 u255 u256 u257 u258 u259 u260 u261 u262 u263 u264 u265 u266 u267 u268 u269 u270 u271 u272 u273 u274 u275 u276 u277 u278 u279 u280 u281 u282 u283 u284 u285 : Value) (kq : Nat)
    (HM : Aside0 (PtW w))
    (HT_l : Aside0 (r = true))
    (A10 : Aside0 (impl_StepsToCorner.f a0_0 a0_1 a1_0 a1_1 a1_2 a1_3 = some (b5, j1)))
    (A11 : Aside0 (spec_StepsToCorner.f k a0_0 a0_1 a1_0 a1_1 a1_2 a1_3 = some (S5, S6)))
    (A12 : Aside0 (impl_CornerOf.f a0_0 a0_1 a1_0 a1_1 a1_2 a1_3 = some (h3, g5, A0)))
    (A13 : Aside0 (spec_CornerOf.f k a0_0 a0_1 a1_0 a1_1 a1_2 a1_3 = some (S9, T0, T1)))
    (A14 : Aside0 (impl_BouncesToCorner.f a0_0 a0_1 a1_0 a1_1 a1_2 a1_3 = some (c3, A1)))
    (A15 : Aside0 (spec_BouncesToCorner.f k a0_0 a0_1 a1_0 a1_1 a1_2 a1_3 = some (T4, T5)))
    (A16 : Aside0 (impl_CountCrossings.f a0_0 a0_1 a1_0 a1_1 a1_2 a1_3 = some (d4, A2)))
    (A17 : Aside0 (spec_CountCrossings.f k a0_0 a0_1 a1_0 a1_1 a1_2 a1_3 = some (T8, T9)))
    (X5 X6 : Aside0 (Array.size (World.heap w) ≤ c4))
    (X7 X8 : Aside0 (Array.size (World.heap w) ≤ g8))
    (c9 : Aside0 (c4 ≠ g8))
    (d0 : Aside0 (g8 ≠ c4))
    (X9 Y0 : Aside0 (Array.size (World.heap w) ≤ b9))
    (c1 : Aside0 (c4 ≠ b9))
    (c2 : Aside0 (b9 ≠ c4))
    (d7 : Aside0 (g8 ≠ b9))
    (d8 : Aside0 (b9 ≠ g8))
    (HJ17 : Aside0 (b0 + 1 ≤ k))
    (HA : Aside0 (j2 kq a3 a4 a2_0 a2_1 = some r))
    (HJ60 : Aside0 (kq ≤ b0))
    (a0 : Aside0 ((World.heap wc)[c4]? = some (Obj.cells #[Value.int IntKind.i64 a0_0, Value.int IntKind.i64 a0_1] 23)))
    (a1 : Aside0 ((World.heap wc)[g8]? = some (Obj.cells #[Value.int IntKind.i64 a1_0, Value.int IntKind.i64 a1_1, Value.bool a1_2, Value.bool a1_3] 25)))
    (a2 : Aside0 ((World.heap wc)[b9]? = some (Obj.cells #[Value.int IntKind.i64 a2_0, Value.int IntKind.i64 a2_1] 23)))
    (HB : Aside0 (Below (Array.size (World.heap w)) w wc)),
    Code.wp Tryd.prog laws_FnBeamsEndOfAll.restCode1 (bodyPost Tryd.prog Tryd.f3 fun e w' => e = .returned (.bool r) ∧ Below w.heap.size w w')
    {
      tmps :=
        #[Value.agg #[Value.int IntKind.i64 a0_0, Value.int IntKind.i64 a0_1],
          Value.agg #[Value.int IntKind.i64 a1_0, Value.int IntKind.i64 a1_1, Value.bool a1_2, Value.bool a1_3],
          Value.agg #[Value.int IntKind.i64 a2_0, Value.int IntKind.i64 a2_1], Value.int IntKind.i64 a3,
          Value.string a4, Value.pointer (some { block := c4, off := 0 }),
          Value.pointer (some { block := g8, off := 0 }), Value.pointer (some { block := b9, off := 0 }), undef, undef,
          u10, Value.int IntKind.i64 b5, Value.bool j1, Value.int IntKind.i64 S5, Value.bool S6,
          Value.int IntKind.i64 h3, Value.int IntKind.i64 g5, Value.bool A0, Value.int IntKind.i64 S9,
          Value.int IntKind.i64 T0, Value.bool T1, Value.int IntKind.i64 c3, Value.bool A1, Value.int IntKind.i64 T4,
          Value.bool T5, Value.int IntKind.i64 d4, Value.bool A2, Value.int IntKind.i64 T8, Value.bool T9, u29, u30,
          u31, u32, u33, u34, undef, undef, undef, undef, undef, undef, undef, undef, undef, undef, undef, undef, undef,
          undef, undef, undef, undef, undef, undef, undef, undef, undef, undef, undef, undef, undef, undef, undef,
          undef, undef, undef, undef, undef, undef, undef, undef, undef, undef, undef, undef, undef, Value.string a4,
          Value.int IntKind.i64 (↑(ByteArray.size a4) : Int), Value.bool false,
          Value.tuple #[Value.int IntKind.i64 b5, Value.bool j1],
          Value.agg #[Value.int IntKind.i64 a0_0, Value.int IntKind.i64 a0_1],
          Value.agg #[Value.int IntKind.i64 a1_0, Value.int IntKind.i64 a1_1, Value.bool a1_2, Value.bool a1_3],
          Value.tuple #[Value.int IntKind.i64 b5, Value.bool j1], Value.int IntKind.i64 b5, Value.bool j1,
          Value.tuple #[Value.int IntKind.i64 S5, Value.bool S6],
          Value.agg #[Value.int IntKind.i64 a0_0, Value.int IntKind.i64 a0_1],
          Value.agg #[Value.int IntKind.i64 a1_0, Value.int IntKind.i64 a1_1, Value.bool a1_2, Value.bool a1_3],
          Value.tuple #[Value.int IntKind.i64 S5, Value.bool S6], Value.int IntKind.i64 S5, Value.bool S6,
          Value.tuple #[Value.int IntKind.i64 h3, Value.int IntKind.i64 g5, Value.bool A0],
          Value.agg #[Value.int IntKind.i64 a0_0, Value.int IntKind.i64 a0_1],
          Value.agg #[Value.int IntKind.i64 a1_0, Value.int IntKind.i64 a1_1, Value.bool a1_2, Value.bool a1_3],
          Value.tuple #[Value.int IntKind.i64 h3, Value.int IntKind.i64 g5, Value.bool A0], Value.int IntKind.i64 h3,
          Value.int IntKind.i64 g5, Value.bool A0,
          Value.tuple #[Value.int IntKind.i64 S9, Value.int IntKind.i64 T0, Value.bool T1],
          Value.agg #[Value.int IntKind.i64 a0_0, Value.int IntKind.i64 a0_1],
          Value.agg #[Value.int IntKind.i64 a1_0, Value.int IntKind.i64 a1_1, Value.bool a1_2, Value.bool a1_3],
          Value.tuple #[Value.int IntKind.i64 S9, Value.int IntKind.i64 T0, Value.bool T1], Value.int IntKind.i64 S9,
          Value.int IntKind.i64 T0, Value.bool T1, Value.tuple #[Value.int IntKind.i64 c3, Value.bool A1],
          Value.agg #[Value.int IntKind.i64 a0_0, Value.int IntKind.i64 a0_1],
          Value.agg #[Value.int IntKind.i64 a1_0, Value.int IntKind.i64 a1_1, Value.bool a1_2, Value.bool a1_3],
          Value.tuple #[Value.int IntKind.i64 c3, Value.bool A1], Value.int IntKind.i64 c3, Value.bool A1,
          Value.tuple #[Value.int IntKind.i64 T4, Value.bool T5],
          Value.agg #[Value.int IntKind.i64 a0_0, Value.int IntKind.i64 a0_1],
          Value.agg #[Value.int IntKind.i64 a1_0, Value.int IntKind.i64 a1_1, Value.bool a1_2, Value.bool a1_3],
          Value.tuple #[Value.int IntKind.i64 T4, Value.bool T5], Value.int IntKind.i64 T4, Value.bool T5,
          Value.tuple #[Value.int IntKind.i64 d4, Value.bool A2],
          Value.agg #[Value.int IntKind.i64 a0_0, Value.int IntKind.i64 a0_1],
          Value.agg #[Value.int IntKind.i64 a1_0, Value.int IntKind.i64 a1_1, Value.bool a1_2, Value.bool a1_3],
          Value.tuple #[Value.int IntKind.i64 d4, Value.bool A2], Value.int IntKind.i64 d4, Value.bool A2,
          Value.tuple #[Value.int IntKind.i64 T8, Value.bool T9],
          Value.agg #[Value.int IntKind.i64 a0_0, Value.int IntKind.i64 a0_1],
          Value.agg #[Value.int IntKind.i64 a1_0, Value.int IntKind.i64 a1_1, Value.bool a1_2, Value.bool a1_3],
          Value.tuple #[Value.int IntKind.i64 T8, Value.bool T9], Value.int IntKind.i64 T8, Value.bool T9, u129, u130,
          u131, u132, u133, u134, u135, u136, u137, u138, u139, u140, u141, u142, u143, u144, u145, u146, u147, u148,
          u149, u150, u151, u152, u153, u154, u155, u156, u157, u158, u159, u160, u161, u162, u163, u164, u165, u166,
          u167, u168, u169, u170, u171, u172, u173, u174, u175, u176, u177, u178, u179, u180, u181, u182, u183, u184,
          u185, Value.bool false, u187, u188, u189, u190, u191, u192, u193, u194, u195, u196, u197, u198, u199, u200,
          u201, u202, u203, u204, u205, u206, u207, u208, u209, u210, u211, u212, u213, u214, u215, u216, u217, u218,
          u219, u220, u221, u222, u223, u224, u225, u226, u227, u228, u229, u230, u231, u232, u233, u234, u235, u236,
          u237, u238, u239, u240, u241, u242, u243, u244, u245, u246, u247, u248, u249, u250, u251, u252, u253, u254,
          u255, u256, u257, u258, u259, u260, u261, u262, u263, u264, u265, u266, u267, u268, u269, u270, u271, u272,
          u273, u274, u275, u276, u277, u278, u279, u280, u281, u282, u283, u284, u285, undef, undef, undef, undef,
          undef, undef, undef, undef, undef, undef, undef, undef, undef, undef, undef, undef, undef, undef, undef,
          undef, undef, undef, undef, undef, undef, undef, undef, undef, undef, undef, undef, undef, undef, undef,
          undef, undef, undef, undef, undef, undef, undef, undef, undef, undef, undef, undef, undef, undef, undef,
          undef, undef, undef, undef, undef, undef, undef, undef, undef, undef, undef, undef, undef, undef, undef,
          undef, undef, undef, undef, undef, undef, undef, undef, undef, undef, undef, undef, undef, undef, undef,
          undef, undef, undef, undef, undef, undef, undef, undef, undef, undef, undef, undef, undef, undef, undef,
          undef, undef, undef, undef, undef, undef, undef, undef, undef, undef, undef, undef, undef, undef, undef,
          undef, undef, undef, undef, undef, undef, undef, undef, undef, undef, undef, undef, undef, undef, undef,
          undef, undef, undef, undef, undef, undef, undef, undef, undef, undef, undef, undef, undef, undef, undef,
          undef, undef, undef, undef, undef, undef, undef, undef, undef, undef, undef, undef, undef, undef, undef,
          undef, undef, undef, undef, undef, undef, undef, undef, undef, undef, undef, undef, undef, undef, undef,
          undef, undef, undef, undef, undef, undef, undef, undef, undef, undef, undef, undef, undef, undef, undef,
          undef, undef, undef, undef, undef, undef, undef, undef, undef, undef, undef, undef, undef, undef, undef,
          undef, undef, undef, undef, undef, undef, undef, undef, undef, undef, undef, undef, undef, undef, undef,
          undef, undef, undef, undef, undef, undef, undef, undef, undef, undef, undef, undef, undef, undef, undef,
          undef, undef, undef, undef, undef, undef, undef, undef, undef, undef, undef, undef, undef, undef, undef,
          undef, undef, undef, undef, undef, undef, undef, undef, undef, undef, undef, undef, undef, undef, undef,
          undef, undef, undef, undef, undef, undef, undef, undef, undef, undef, undef, undef, undef, undef, undef,
          undef, undef, undef, undef, undef, undef, undef, undef, undef, undef, undef, undef, undef, undef, undef,
          undef, undef, undef, undef, undef, undef, undef, undef, undef, undef, undef, undef, undef],
      defers := [] }
    wc
/-- The code behind cut 2, and the test ahead of it. -/
noncomputable def laws_FnBeamsEndOfAll.restCode2 : Code := (cr (cr (cr (cr (cr (cr (cr (cr (cr (cr (cr (cr (cr (cr (cr (cr (cr (cr (cr (cr (cr (cr (cr (Tryd.f3.body.getD .skip))))))))))))))))))))))))
noncomputable def laws_FnBeamsEndOfAll.testCode2 : Code := (cr (cl (cr (cr (cr (cr (cr (cr (cr (cr (cr (cr (cr (cr (cr (cr (cr (cr (cr (cr (cr (cr (cr (cr (Tryd.f3.body.getD .skip)))))))))))))))))))))))))
/-- What it answers. -/
def laws_FnBeamsEndOfAll.RestSaid2 : Prop := ∀ (k : Nat) (a0_0 a0_1 a1_0 a1_1 : Int) (a1_2 a1_3 : Bool) (a2_0 a2_1 a3 : Int) (a4 : ByteArray) (r : Bool) (w : World) (b5 : Int) (j1 : Bool) (S5 : Int) (S6 : Bool) (h3 g5 : Int) (A0 : Bool) (S9 T0 : Int) (T1 : Bool) (c3 : Int) (A1 : Bool) (T4 : Int) (T5 : Bool) (d4 : Int) (A2 : Bool) (T8 : Int) (T9 : Bool) (c4 : Nat) (g8 : Nat) (b9 : Nat) (u129 u130 u131 u132 u133 u134 u135 u136 u137 u138 u139 u140 u141 u142 u143 u144 u145 u146 u147 u148 u149 u150 u151 u152 u153 u154 u155 u156 u157 u158 u159 u160 u161 u162 u163 u164 u165 u166 u167 u168 u169 u170 u171 u172 u173 u174 u175 u176 u177 u178 u179 u180 u181 u182 u183 u184 u185 : Value) (b0 : Nat) (u10 u29 u30 u31 u32 u33 u34 u187 u188 u189 u190 u191 u192 u193 u194 u195 u196 u197 u198 u199 u200 u201 u202 u203 u204 u205 u206 u207 u208 u209 u210 u211 u212 u213 u214 u215 u216 u217 u218 u219 u220 u221 u222 u223 u224 u225 u226 u227 u228 u229 u230 u231 u232 u233 u234 u235 u236 u237 u238 u239 u240 u241 u242 u243 u244 u245 u246 u247 u248 u249 u250 u251 u252 u253 u254 u255 u256 u257 u258 u259 u260 u261 u262 u263 u264 u265 u266 u267 u268 u269 u270 u271 u272 u273 u274 u275 u276 u277 u278 u279 u280 u281 u282 u283 u284 u285 : Value) (b8 : Nat) (l5 l6 : Int) (j2 : Bool) (U7 U8 : Int) (U9 : Bool) (p4 p5 : Int) (A6 : Bool) (V0 V1 : Int) (V2 : Bool) (l7 : ByteArray) (A7 : Bool) (V3 : ByteArray) (V4 : Bool) (a8 : List S23) (l8 : Bool) (p6 : List S23) (V5 : Bool) (d1 d2 : Int) (j3 : Bool) (e7 e8 : Int) (V6 : Bool) (p8 : Value) (V7 : Value) (b7 : Nat) (b2 : Nat) (wc : World) (u340 u341 u342 u343 u344 u345 u346 u347 u348 u349 u350 u351 u352 u353 u354 u355 u356 u357 u358 u359 u360 u361 u362 u363 u364 u365 u366 u367 u368 u369 u370 u371 u372 u373 u374 u375 u376 u377 u378 u379 u380 u381 u382 u383 u384 u385 u386 u387 u388 u389 u390 u391 u392 u393 u394 u395 u396 u397 u398 u399 u400 u401 u402 u403 u404 u405 u406 u407 u408 u409 u410 u411 u412 u413 u414 u415 u416 u417 u418 u419 u420 : Value) (kq : Nat) (h4 : Bool)
    (HM : Aside0 (PtW w))
    (HT_l : Aside0 (r = true))
    (A10 : Aside0 (impl_StepsToCorner.f a0_0 a0_1 a1_0 a1_1 a1_2 a1_3 = some (b5, j1)))
    (A11 : Aside0 (spec_StepsToCorner.f k a0_0 a0_1 a1_0 a1_1 a1_2 a1_3 = some (S5, S6)))
    (A12 : Aside0 (impl_CornerOf.f a0_0 a0_1 a1_0 a1_1 a1_2 a1_3 = some (h3, g5, A0)))
    (A13 : Aside0 (spec_CornerOf.f k a0_0 a0_1 a1_0 a1_1 a1_2 a1_3 = some (S9, T0, T1)))
    (A14 : Aside0 (impl_BouncesToCorner.f a0_0 a0_1 a1_0 a1_1 a1_2 a1_3 = some (c3, A1)))
    (A15 : Aside0 (spec_BouncesToCorner.f k a0_0 a0_1 a1_0 a1_1 a1_2 a1_3 = some (T4, T5)))
    (A16 : Aside0 (impl_CountCrossings.f a0_0 a0_1 a1_0 a1_1 a1_2 a1_3 = some (d4, A2)))
    (A17 : Aside0 (spec_CountCrossings.f k a0_0 a0_1 a1_0 a1_1 a1_2 a1_3 = some (T8, T9)))
    (X5 X6 : Aside0 (Array.size (World.heap w) ≤ c4))
    (X7 X8 : Aside0 (Array.size (World.heap w) ≤ g8))
    (c9 : Aside0 (c4 ≠ g8))
    (d0 : Aside0 (g8 ≠ c4))
    (X9 Y0 : Aside0 (Array.size (World.heap w) ≤ b9))
    (c1 : Aside0 (c4 ≠ b9))
    (c2 : Aside0 (b9 ≠ c4))
    (d7 : Aside0 (g8 ≠ b9))
    (d8 : Aside0 (b9 ≠ g8))
    (HJ17 : Aside0 (b0 + 1 ≤ k))
    (HJ60 : Aside0 (b8 + 1 ≤ b0))
    (a89 : Aside0 (impl_MainBounces.f b8 a2_0 a2_1 = some (l5, l6, j2)))
    (a90 : Aside0 (spec_MainBounces.f b8 a2_0 a2_1 = some (U7, U8, U9)))
    (a91 : Aside0 (impl_MainCorner.f b8 a2_0 a2_1 = some (p4, p5, A6)))
    (a92 : Aside0 (spec_MainCorner.f b8 a2_0 a2_1 = some (V0, V1, V2)))
    (a93 : Aside0 (impl_TableText.f a2_0 a2_1 = some (l7, A7)))
    (a94 : Aside0 (spec_TableText.f b8 a2_0 a2_1 = some (V3, V4)))
    (a95 : Aside0 (impl_TablesFor.f b8 a3 = some (a8, l8)))
    (a96 : Aside0 (spec_TablesFor.f b8 a3 = some (p6, V5)))
    (a97 : Aside0 (impl_ParseTable.f a4 = some (d1, d2, j3)))
    (a98 : Aside0 (spec_ParseTable.f b8 a4 = some (e7, e8, V6)))
    (bm0 bm1 : Aside0 (Array.size (World.heap w) ≤ b7))
    (k1 : Aside0 (c4 ≠ b7))
    (k2 : Aside0 (b7 ≠ c4))
    (k3 : Aside0 (g8 ≠ b7))
    (k4 : Aside0 (b7 ≠ g8))
    (h5 : Aside0 (b9 ≠ b7))
    (h6 : Aside0 (b7 ≠ b9))
    (bm2 bm3 : Aside0 (Array.size (World.heap w) ≤ b2))
    (x0 : Aside0 (c4 ≠ b2))
    (x1 : Aside0 (b2 ≠ c4))
    (x2 : Aside0 (g8 ≠ b2))
    (x5 : Aside0 (b2 ≠ g8))
    (k6 : Aside0 (b9 ≠ b2))
    (k7 : Aside0 (b2 ≠ b9))
    (k8 : Aside0 (b7 ≠ b2))
    (k9 : Aside0 (b2 ≠ b7))
    (HA : Aside0 (laws_FnBeamsEndOfAll.j3 kq a3 a4 l5 l6 j2 p4 p5 l7 a8 l8 j3 h4 a2_0 a2_1 d1 d2 = some r))
    (HJ194 : Aside0 (kq ≤ b8))
    (a9 : Aside0 (Kd.R k23 23 wc (Array.size (World.heap w)) (fun k_ => k_ ≠ c4 ∧ k_ ≠ b9 ∧ k_ ≠ b7 ∧ k_ ≠ b2) p8 a8))
    (a0 : Aside0 ((World.heap wc)[c4]? = some (Obj.cells #[Value.int IntKind.i64 a0_0, Value.int IntKind.i64 a0_1] 23)))
    (a1 : Aside0 ((World.heap wc)[g8]? = some (Obj.cells #[Value.int IntKind.i64 a1_0, Value.int IntKind.i64 a1_1, Value.bool a1_2, Value.bool a1_3] 25)))
    (a2 : Aside0 ((World.heap wc)[b9]? = some (Obj.cells #[Value.int IntKind.i64 a2_0, Value.int IntKind.i64 a2_1] 23)))
    (a5 : Aside0 ((World.heap wc)[b7]? = some (Obj.cells #[Value.int IntKind.i64 d1, Value.int IntKind.i64 d2] 23)))
    (a7 : Aside0 ((World.heap wc)[b2]? = some (Obj.cells #[Value.int IntKind.i64 e7, Value.int IntKind.i64 e8] 23)))
    (HB : Aside0 (Below (Array.size (World.heap w)) w wc)),
    ∀ K : Act → World → Prop, (∀ a w', Code.wp Tryd.prog laws_FnBeamsEndOfAll.restCode2 (bodyPost Tryd.prog Tryd.f3 fun e w' => e = .returned (.bool r) ∧ Below w.heap.size w w') a w' → K a w') →
    Code.wp Tryd.prog laws_FnBeamsEndOfAll.testCode2 (Exit.then K (bodyPost Tryd.prog Tryd.f3 fun e w' => e = .returned (.bool r) ∧ Below w.heap.size w w'))
    {
      tmps :=
        #[Value.agg #[Value.int IntKind.i64 a0_0, Value.int IntKind.i64 a0_1],
          Value.agg #[Value.int IntKind.i64 a1_0, Value.int IntKind.i64 a1_1, Value.bool a1_2, Value.bool a1_3],
          Value.agg #[Value.int IntKind.i64 a2_0, Value.int IntKind.i64 a2_1], Value.int IntKind.i64 a3,
          Value.string a4, Value.pointer (some { block := c4, off := 0 }),
          Value.pointer (some { block := g8, off := 0 }), Value.pointer (some { block := b9, off := 0 }), undef, undef,
          u10, Value.int IntKind.i64 b5, Value.bool j1, Value.int IntKind.i64 S5, Value.bool S6,
          Value.int IntKind.i64 h3, Value.int IntKind.i64 g5, Value.bool A0, Value.int IntKind.i64 S9,
          Value.int IntKind.i64 T0, Value.bool T1, Value.int IntKind.i64 c3, Value.bool A1, Value.int IntKind.i64 T4,
          Value.bool T5, Value.int IntKind.i64 d4, Value.bool A2, Value.int IntKind.i64 T8, Value.bool T9, u29, u30,
          u31, u32, u33, u34, Value.int IntKind.i64 l5, Value.int IntKind.i64 l6, Value.bool j2,
          Value.int IntKind.i64 U7, Value.int IntKind.i64 U8, Value.bool U9, Value.int IntKind.i64 p4,
          Value.int IntKind.i64 p5, Value.bool A6, Value.int IntKind.i64 V0, Value.int IntKind.i64 V1, Value.bool V2,
          Value.string l7, Value.bool A7, Value.string V3, Value.bool V4, p8, Value.bool l8, V7, Value.bool V5,
          Value.pointer (some { block := b7, off := 0 }), Value.bool j3, Value.pointer (some { block := b2, off := 0 }),
          Value.bool V6, undef, undef, undef, undef, undef, undef, undef, undef, undef, undef, undef, undef, undef,
          undef, undef, undef, undef, Value.string a4, Value.int IntKind.i64 (↑(ByteArray.size a4) : Int),
          Value.bool false, Value.tuple #[Value.int IntKind.i64 b5, Value.bool j1],
          Value.agg #[Value.int IntKind.i64 a0_0, Value.int IntKind.i64 a0_1],
          Value.agg #[Value.int IntKind.i64 a1_0, Value.int IntKind.i64 a1_1, Value.bool a1_2, Value.bool a1_3],
          Value.tuple #[Value.int IntKind.i64 b5, Value.bool j1], Value.int IntKind.i64 b5, Value.bool j1,
          Value.tuple #[Value.int IntKind.i64 S5, Value.bool S6],
          Value.agg #[Value.int IntKind.i64 a0_0, Value.int IntKind.i64 a0_1],
          Value.agg #[Value.int IntKind.i64 a1_0, Value.int IntKind.i64 a1_1, Value.bool a1_2, Value.bool a1_3],
          Value.tuple #[Value.int IntKind.i64 S5, Value.bool S6], Value.int IntKind.i64 S5, Value.bool S6,
          Value.tuple #[Value.int IntKind.i64 h3, Value.int IntKind.i64 g5, Value.bool A0],
          Value.agg #[Value.int IntKind.i64 a0_0, Value.int IntKind.i64 a0_1],
          Value.agg #[Value.int IntKind.i64 a1_0, Value.int IntKind.i64 a1_1, Value.bool a1_2, Value.bool a1_3],
          Value.tuple #[Value.int IntKind.i64 h3, Value.int IntKind.i64 g5, Value.bool A0], Value.int IntKind.i64 h3,
          Value.int IntKind.i64 g5, Value.bool A0,
          Value.tuple #[Value.int IntKind.i64 S9, Value.int IntKind.i64 T0, Value.bool T1],
          Value.agg #[Value.int IntKind.i64 a0_0, Value.int IntKind.i64 a0_1],
          Value.agg #[Value.int IntKind.i64 a1_0, Value.int IntKind.i64 a1_1, Value.bool a1_2, Value.bool a1_3],
          Value.tuple #[Value.int IntKind.i64 S9, Value.int IntKind.i64 T0, Value.bool T1], Value.int IntKind.i64 S9,
          Value.int IntKind.i64 T0, Value.bool T1, Value.tuple #[Value.int IntKind.i64 c3, Value.bool A1],
          Value.agg #[Value.int IntKind.i64 a0_0, Value.int IntKind.i64 a0_1],
          Value.agg #[Value.int IntKind.i64 a1_0, Value.int IntKind.i64 a1_1, Value.bool a1_2, Value.bool a1_3],
          Value.tuple #[Value.int IntKind.i64 c3, Value.bool A1], Value.int IntKind.i64 c3, Value.bool A1,
          Value.tuple #[Value.int IntKind.i64 T4, Value.bool T5],
          Value.agg #[Value.int IntKind.i64 a0_0, Value.int IntKind.i64 a0_1],
          Value.agg #[Value.int IntKind.i64 a1_0, Value.int IntKind.i64 a1_1, Value.bool a1_2, Value.bool a1_3],
          Value.tuple #[Value.int IntKind.i64 T4, Value.bool T5], Value.int IntKind.i64 T4, Value.bool T5,
          Value.tuple #[Value.int IntKind.i64 d4, Value.bool A2],
          Value.agg #[Value.int IntKind.i64 a0_0, Value.int IntKind.i64 a0_1],
          Value.agg #[Value.int IntKind.i64 a1_0, Value.int IntKind.i64 a1_1, Value.bool a1_2, Value.bool a1_3],
          Value.tuple #[Value.int IntKind.i64 d4, Value.bool A2], Value.int IntKind.i64 d4, Value.bool A2,
          Value.tuple #[Value.int IntKind.i64 T8, Value.bool T9],
          Value.agg #[Value.int IntKind.i64 a0_0, Value.int IntKind.i64 a0_1],
          Value.agg #[Value.int IntKind.i64 a1_0, Value.int IntKind.i64 a1_1, Value.bool a1_2, Value.bool a1_3],
          Value.tuple #[Value.int IntKind.i64 T8, Value.bool T9], Value.int IntKind.i64 T8, Value.bool T9, u129, u130,
          u131, u132, u133, u134, u135, u136, u137, u138, u139, u140, u141, u142, u143, u144, u145, u146, u147, u148,
          u149, u150, u151, u152, u153, u154, u155, u156, u157, u158, u159, u160, u161, u162, u163, u164, u165, u166,
          u167, u168, u169, u170, u171, u172, u173, u174, u175, u176, u177, u178, u179, u180, u181, u182, u183, u184,
          u185, Value.bool false, u187, u188, u189, u190, u191, u192, u193, u194, u195, u196, u197, u198, u199, u200,
          u201, u202, u203, u204, u205, u206, u207, u208, u209, u210, u211, u212, u213, u214, u215, u216, u217, u218,
          u219, u220, u221, u222, u223, u224, u225, u226, u227, u228, u229, u230, u231, u232, u233, u234, u235, u236,
          u237, u238, u239, u240, u241, u242, u243, u244, u245, u246, u247, u248, u249, u250, u251, u252, u253, u254,
          u255, u256, u257, u258, u259, u260, u261, u262, u263, u264, u265, u266, u267, u268, u269, u270, u271, u272,
          u273, u274, u275, u276, u277, u278, u279, u280, u281, u282, u283, u284, u285,
          Value.tuple #[Value.int IntKind.i64 l5, Value.int IntKind.i64 l6, Value.bool j2],
          Value.agg #[Value.int IntKind.i64 a2_0, Value.int IntKind.i64 a2_1],
          Value.tuple #[Value.int IntKind.i64 l5, Value.int IntKind.i64 l6, Value.bool j2], Value.int IntKind.i64 l5,
          Value.int IntKind.i64 l6, Value.bool j2,
          Value.tuple #[Value.int IntKind.i64 U7, Value.int IntKind.i64 U8, Value.bool U9],
          Value.agg #[Value.int IntKind.i64 a2_0, Value.int IntKind.i64 a2_1],
          Value.tuple #[Value.int IntKind.i64 U7, Value.int IntKind.i64 U8, Value.bool U9], Value.int IntKind.i64 U7,
          Value.int IntKind.i64 U8, Value.bool U9,
          Value.tuple #[Value.int IntKind.i64 p4, Value.int IntKind.i64 p5, Value.bool A6],
          Value.agg #[Value.int IntKind.i64 a2_0, Value.int IntKind.i64 a2_1],
          Value.tuple #[Value.int IntKind.i64 p4, Value.int IntKind.i64 p5, Value.bool A6], Value.int IntKind.i64 p4,
          Value.int IntKind.i64 p5, Value.bool A6,
          Value.tuple #[Value.int IntKind.i64 V0, Value.int IntKind.i64 V1, Value.bool V2],
          Value.agg #[Value.int IntKind.i64 a2_0, Value.int IntKind.i64 a2_1],
          Value.tuple #[Value.int IntKind.i64 V0, Value.int IntKind.i64 V1, Value.bool V2], Value.int IntKind.i64 V0,
          Value.int IntKind.i64 V1, Value.bool V2, Value.tuple #[Value.string l7, Value.bool A7],
          Value.agg #[Value.int IntKind.i64 a2_0, Value.int IntKind.i64 a2_1],
          Value.tuple #[Value.string l7, Value.bool A7], Value.string l7, Value.bool A7,
          Value.tuple #[Value.string V3, Value.bool V4],
          Value.agg #[Value.int IntKind.i64 a2_0, Value.int IntKind.i64 a2_1],
          Value.tuple #[Value.string V3, Value.bool V4], Value.string V3, Value.bool V4,
          Value.tuple #[p8, Value.bool l8], Value.int IntKind.i64 a3, Value.tuple #[p8, Value.bool l8], p8,
          Value.bool l8, Value.tuple #[V7, Value.bool V5], Value.int IntKind.i64 a3, Value.tuple #[V7, Value.bool V5],
          V7, Value.bool V5,
          Value.tuple #[Value.agg #[Value.int IntKind.i64 d1, Value.int IntKind.i64 d2], Value.bool j3],
          Value.string a4,
          Value.tuple #[Value.agg #[Value.int IntKind.i64 d1, Value.int IntKind.i64 d2], Value.bool j3],
          Value.agg #[Value.int IntKind.i64 d1, Value.int IntKind.i64 d2], Value.bool j3,
          Value.tuple #[Value.agg #[Value.int IntKind.i64 e7, Value.int IntKind.i64 e8], Value.bool V6],
          Value.string a4,
          Value.tuple #[Value.agg #[Value.int IntKind.i64 e7, Value.int IntKind.i64 e8], Value.bool V6],
          Value.agg #[Value.int IntKind.i64 e7, Value.int IntKind.i64 e8], Value.bool V6, u340, u341, u342, u343, u344,
          u345, u346, u347, u348, u349, u350, u351, u352, u353, u354, u355, u356, u357, u358, u359, u360, u361, u362,
          u363, u364, u365, u366, u367, u368, u369, u370, u371, u372, u373, u374, u375, u376, u377, u378, u379, u380,
          u381, u382, u383, u384, u385, u386, u387, u388, u389, u390, u391, u392, u393, u394, u395, u396, u397, u398,
          u399, u400, u401, u402, u403, u404, u405, u406, u407, u408, u409, u410, u411, u412, u413, u414, u415, u416,
          u417, u418, u419, u420, Value.bool h4, undef, undef, undef, undef, undef, undef, undef, undef, undef, undef,
          undef, undef, undef, undef, undef, undef, undef, undef, undef, undef, undef, undef, undef, undef, undef,
          undef, undef, undef, undef, undef, undef, undef, undef, undef, undef, undef, undef, undef, undef, undef,
          undef, undef, undef, undef, undef, undef, undef, undef, undef, undef, undef, undef, undef, undef, undef,
          undef, undef, undef, undef, undef, undef, undef, undef, undef, undef, undef, undef, undef, undef, undef,
          undef, undef, undef, undef, undef, undef, undef, undef, undef, undef, undef, undef, undef, undef, undef,
          undef, undef, undef, undef, undef, undef, undef, undef, undef, undef, undef, undef, undef, undef, undef,
          undef, undef, undef, undef, undef, undef, undef, undef, undef, undef, undef, undef, undef, undef, undef,
          undef, undef, undef, undef, undef, undef, undef, undef, undef, undef, undef, undef, undef, undef, undef,
          undef, undef, undef, undef, undef, undef, undef, undef, undef, undef, undef, undef, undef, undef, undef,
          undef, undef, undef, undef, undef, undef, undef, undef, undef, undef, undef, undef, undef, undef, undef,
          undef, undef, undef, undef, undef, undef],
      defers := [] }
    wc
/-- The code behind cut 3. -/
noncomputable def laws_FnBeamsEndOfAll.restCode3 : Code := (cr (cr (cr (cr (cr (cr (cr (cr (cr (cr (cr (cr (cr (cr (cr (cr (cr (cr (cr (cr (cr (cr (cr (cr (Tryd.f3.body.getD .skip)))))))))))))))))))))))))
/-- What it answers. -/
def laws_FnBeamsEndOfAll.RestSaid3 : Prop := ∀ (k : Nat) (a0_0 a0_1 a1_0 a1_1 : Int) (a1_2 a1_3 : Bool) (a2_0 a2_1 a3 : Int) (a4 : ByteArray) (r : Bool) (w : World) (b5 : Int) (j1 : Bool) (S5 : Int) (S6 : Bool) (h3 g5 : Int) (A0 : Bool) (S9 T0 : Int) (T1 : Bool) (c3 : Int) (A1 : Bool) (T4 : Int) (T5 : Bool) (d4 : Int) (A2 : Bool) (T8 : Int) (T9 : Bool) (c4 : Nat) (g8 : Nat) (b9 : Nat) (u129 u130 u131 u132 u133 u134 u135 u136 u137 u138 u139 u140 u141 u142 u143 u144 u145 u146 u147 u148 u149 u150 u151 u152 u153 u154 u155 u156 u157 u158 u159 u160 u161 u162 u163 u164 u165 u166 u167 u168 u169 u170 u171 u172 u173 u174 u175 u176 u177 u178 u179 u180 u181 u182 u183 u184 u185 : Value) (b0 : Nat) (u29 u30 u31 u32 u33 u34 u187 u188 u189 u190 u191 u192 u193 u194 u195 u196 u197 u198 u199 u200 u201 u202 u203 u204 u205 u206 u207 u208 u209 u210 u211 u212 u213 u214 u215 u216 u217 u218 u219 u220 u221 u222 u223 u224 u225 u226 u227 u228 u229 u230 u231 u232 u233 u234 u235 u236 u237 u238 u239 u240 u241 u242 u243 u244 u245 u246 u247 u248 u249 u250 u251 u252 u253 u254 u255 u256 u257 u258 u259 u260 u261 u262 u263 u264 u265 u266 u267 u268 u269 u270 u271 u272 u273 u274 u275 u276 u277 u278 u279 u280 u281 u282 u283 u284 u285 : Value) (b8 : Nat) (l5 l6 : Int) (j2 : Bool) (U7 U8 : Int) (U9 : Bool) (p4 p5 : Int) (A6 : Bool) (V0 V1 : Int) (V2 : Bool) (l7 : ByteArray) (A7 : Bool) (V3 : ByteArray) (V4 : Bool) (a8 : List S23) (l8 : Bool) (p6 : List S23) (V5 : Bool) (d1 d2 : Int) (j3 : Bool) (e7 e8 : Int) (V6 : Bool) (p8 : Value) (V7 : Value) (b7 : Nat) (b2 : Nat) (u340 u341 u342 u343 u344 u345 u346 u347 u348 u349 u350 u351 u352 u353 u354 u355 u356 u357 u358 u359 u360 u361 u362 u363 u364 u365 u366 u367 u368 u369 u370 u371 u372 u373 u374 u375 u376 u377 u378 u379 u380 u381 u382 u383 u384 u385 u386 u387 u388 u389 u390 u391 u392 u393 u394 u395 u396 u397 u398 u399 u400 u401 u402 u403 u404 u405 u406 u407 u408 u409 u410 u411 u412 u413 u414 u415 u416 u417 u418 u419 u420 : Value) (Z1 : Nat) (wc : World) (u10 u59 u60 u61 u62 u63 u64 u65 u66 u67 u68 u422 u423 u424 u425 u426 u427 u428 u429 u430 u431 u432 u433 u434 u435 u436 u437 u438 u439 u440 u441 u442 u443 u444 u445 u446 u447 u448 u449 u450 u451 u452 u453 u454 u455 u456 u457 u458 u459 u460 u461 u462 u463 u464 u465 u466 u467 u468 u469 u470 u471 u472 u473 u474 u475 u476 u477 u478 u479 u480 u481 u482 u483 u484 u485 u486 u487 u488 u489 u490 u491 u492 u493 u494 u495 u496 u497 u498 u499 u500 u501 u502 u503 u504 u505 u506 u507 u508 u509 u510 u511 u512 u513 u514 u515 : Value) (kq : Nat)
    (HM : Aside0 (PtW w))
    (HT_l : Aside0 (r = true))
    (A10 : Aside0 (impl_StepsToCorner.f a0_0 a0_1 a1_0 a1_1 a1_2 a1_3 = some (b5, j1)))
    (A11 : Aside0 (spec_StepsToCorner.f k a0_0 a0_1 a1_0 a1_1 a1_2 a1_3 = some (S5, S6)))
    (A12 : Aside0 (impl_CornerOf.f a0_0 a0_1 a1_0 a1_1 a1_2 a1_3 = some (h3, g5, A0)))
    (A13 : Aside0 (spec_CornerOf.f k a0_0 a0_1 a1_0 a1_1 a1_2 a1_3 = some (S9, T0, T1)))
    (A14 : Aside0 (impl_BouncesToCorner.f a0_0 a0_1 a1_0 a1_1 a1_2 a1_3 = some (c3, A1)))
    (A15 : Aside0 (spec_BouncesToCorner.f k a0_0 a0_1 a1_0 a1_1 a1_2 a1_3 = some (T4, T5)))
    (A16 : Aside0 (impl_CountCrossings.f a0_0 a0_1 a1_0 a1_1 a1_2 a1_3 = some (d4, A2)))
    (A17 : Aside0 (spec_CountCrossings.f k a0_0 a0_1 a1_0 a1_1 a1_2 a1_3 = some (T8, T9)))
    (X5 X6 : Aside0 (Array.size (World.heap w) ≤ c4))
    (X7 X8 : Aside0 (Array.size (World.heap w) ≤ g8))
    (c9 : Aside0 (c4 ≠ g8))
    (d0 : Aside0 (g8 ≠ c4))
    (X9 Y0 : Aside0 (Array.size (World.heap w) ≤ b9))
    (c1 : Aside0 (c4 ≠ b9))
    (c2 : Aside0 (b9 ≠ c4))
    (d7 : Aside0 (g8 ≠ b9))
    (d8 : Aside0 (b9 ≠ g8))
    (HJ17 : Aside0 (b0 + 1 ≤ k))
    (HJ60 : Aside0 (b8 + 1 ≤ b0))
    (a89 : Aside0 (impl_MainBounces.f b8 a2_0 a2_1 = some (l5, l6, j2)))
    (a90 : Aside0 (spec_MainBounces.f b8 a2_0 a2_1 = some (U7, U8, U9)))
    (a91 : Aside0 (impl_MainCorner.f b8 a2_0 a2_1 = some (p4, p5, A6)))
    (a92 : Aside0 (spec_MainCorner.f b8 a2_0 a2_1 = some (V0, V1, V2)))
    (a93 : Aside0 (impl_TableText.f a2_0 a2_1 = some (l7, A7)))
    (a94 : Aside0 (spec_TableText.f b8 a2_0 a2_1 = some (V3, V4)))
    (a95 : Aside0 (impl_TablesFor.f b8 a3 = some (a8, l8)))
    (a96 : Aside0 (spec_TablesFor.f b8 a3 = some (p6, V5)))
    (a97 : Aside0 (impl_ParseTable.f a4 = some (d1, d2, j3)))
    (a98 : Aside0 (spec_ParseTable.f b8 a4 = some (e7, e8, V6)))
    (bm0 bm1 : Aside0 (Array.size (World.heap w) ≤ b7))
    (k1 : Aside0 (c4 ≠ b7))
    (k2 : Aside0 (b7 ≠ c4))
    (k3 : Aside0 (g8 ≠ b7))
    (k4 : Aside0 (b7 ≠ g8))
    (h5 : Aside0 (b9 ≠ b7))
    (h6 : Aside0 (b7 ≠ b9))
    (bm2 bm3 : Aside0 (Array.size (World.heap w) ≤ b2))
    (x0 : Aside0 (c4 ≠ b2))
    (x1 : Aside0 (b2 ≠ c4))
    (x2 : Aside0 (g8 ≠ b2))
    (x5 : Aside0 (b2 ≠ g8))
    (k6 : Aside0 (b9 ≠ b2))
    (k7 : Aside0 (b2 ≠ b9))
    (k8 : Aside0 (b7 ≠ b2))
    (k9 : Aside0 (b2 ≠ b7))
    (HJ194 : Aside0 (Z1 + 1 ≤ b8))
    (HA : Aside0 (j4 kq a3 a4 a8 l8 j3 d1 d2 = some r))
    (HJ251 : Aside0 (kq ≤ Z1))
    (a9 : Aside0 (Kd.R k23 23 wc (Array.size (World.heap w)) (fun k_ => k_ ≠ c4 ∧ k_ ≠ b9 ∧ k_ ≠ b7 ∧ k_ ≠ b2) p8 a8))
    (a0 : Aside0 ((World.heap wc)[c4]? = some (Obj.cells #[Value.int IntKind.i64 a0_0, Value.int IntKind.i64 a0_1] 23)))
    (a1 : Aside0 ((World.heap wc)[g8]? = some (Obj.cells #[Value.int IntKind.i64 a1_0, Value.int IntKind.i64 a1_1, Value.bool a1_2, Value.bool a1_3] 25)))
    (a2 : Aside0 ((World.heap wc)[b9]? = some (Obj.cells #[Value.int IntKind.i64 a2_0, Value.int IntKind.i64 a2_1] 23)))
    (a5 : Aside0 ((World.heap wc)[b7]? = some (Obj.cells #[Value.int IntKind.i64 d1, Value.int IntKind.i64 d2] 23)))
    (a7 : Aside0 ((World.heap wc)[b2]? = some (Obj.cells #[Value.int IntKind.i64 e7, Value.int IntKind.i64 e8] 23)))
    (HB : Aside0 (Below (Array.size (World.heap w)) w wc)),
    Code.wp Tryd.prog laws_FnBeamsEndOfAll.restCode3 (bodyPost Tryd.prog Tryd.f3 fun e w' => e = .returned (.bool r) ∧ Below w.heap.size w w')
    {
      tmps :=
        #[Value.agg #[Value.int IntKind.i64 a0_0, Value.int IntKind.i64 a0_1],
          Value.agg #[Value.int IntKind.i64 a1_0, Value.int IntKind.i64 a1_1, Value.bool a1_2, Value.bool a1_3],
          Value.agg #[Value.int IntKind.i64 a2_0, Value.int IntKind.i64 a2_1], Value.int IntKind.i64 a3,
          Value.string a4, Value.pointer (some { block := c4, off := 0 }),
          Value.pointer (some { block := g8, off := 0 }), Value.pointer (some { block := b9, off := 0 }), undef, undef,
          u10, Value.int IntKind.i64 b5, Value.bool j1, Value.int IntKind.i64 S5, Value.bool S6,
          Value.int IntKind.i64 h3, Value.int IntKind.i64 g5, Value.bool A0, Value.int IntKind.i64 S9,
          Value.int IntKind.i64 T0, Value.bool T1, Value.int IntKind.i64 c3, Value.bool A1, Value.int IntKind.i64 T4,
          Value.bool T5, Value.int IntKind.i64 d4, Value.bool A2, Value.int IntKind.i64 T8, Value.bool T9, u29, u30,
          u31, u32, u33, u34, Value.int IntKind.i64 l5, Value.int IntKind.i64 l6, Value.bool j2,
          Value.int IntKind.i64 U7, Value.int IntKind.i64 U8, Value.bool U9, Value.int IntKind.i64 p4,
          Value.int IntKind.i64 p5, Value.bool A6, Value.int IntKind.i64 V0, Value.int IntKind.i64 V1, Value.bool V2,
          Value.string l7, Value.bool A7, Value.string V3, Value.bool V4, p8, Value.bool l8, V7, Value.bool V5,
          Value.pointer (some { block := b7, off := 0 }), Value.bool j3, Value.pointer (some { block := b2, off := 0 }),
          Value.bool V6, u59, u60, u61, u62, u63, u64, u65, u66, u67, u68, undef, undef, undef, undef, undef, undef,
          undef, Value.string a4, Value.int IntKind.i64 (↑(ByteArray.size a4) : Int), Value.bool false,
          Value.tuple #[Value.int IntKind.i64 b5, Value.bool j1],
          Value.agg #[Value.int IntKind.i64 a0_0, Value.int IntKind.i64 a0_1],
          Value.agg #[Value.int IntKind.i64 a1_0, Value.int IntKind.i64 a1_1, Value.bool a1_2, Value.bool a1_3],
          Value.tuple #[Value.int IntKind.i64 b5, Value.bool j1], Value.int IntKind.i64 b5, Value.bool j1,
          Value.tuple #[Value.int IntKind.i64 S5, Value.bool S6],
          Value.agg #[Value.int IntKind.i64 a0_0, Value.int IntKind.i64 a0_1],
          Value.agg #[Value.int IntKind.i64 a1_0, Value.int IntKind.i64 a1_1, Value.bool a1_2, Value.bool a1_3],
          Value.tuple #[Value.int IntKind.i64 S5, Value.bool S6], Value.int IntKind.i64 S5, Value.bool S6,
          Value.tuple #[Value.int IntKind.i64 h3, Value.int IntKind.i64 g5, Value.bool A0],
          Value.agg #[Value.int IntKind.i64 a0_0, Value.int IntKind.i64 a0_1],
          Value.agg #[Value.int IntKind.i64 a1_0, Value.int IntKind.i64 a1_1, Value.bool a1_2, Value.bool a1_3],
          Value.tuple #[Value.int IntKind.i64 h3, Value.int IntKind.i64 g5, Value.bool A0], Value.int IntKind.i64 h3,
          Value.int IntKind.i64 g5, Value.bool A0,
          Value.tuple #[Value.int IntKind.i64 S9, Value.int IntKind.i64 T0, Value.bool T1],
          Value.agg #[Value.int IntKind.i64 a0_0, Value.int IntKind.i64 a0_1],
          Value.agg #[Value.int IntKind.i64 a1_0, Value.int IntKind.i64 a1_1, Value.bool a1_2, Value.bool a1_3],
          Value.tuple #[Value.int IntKind.i64 S9, Value.int IntKind.i64 T0, Value.bool T1], Value.int IntKind.i64 S9,
          Value.int IntKind.i64 T0, Value.bool T1, Value.tuple #[Value.int IntKind.i64 c3, Value.bool A1],
          Value.agg #[Value.int IntKind.i64 a0_0, Value.int IntKind.i64 a0_1],
          Value.agg #[Value.int IntKind.i64 a1_0, Value.int IntKind.i64 a1_1, Value.bool a1_2, Value.bool a1_3],
          Value.tuple #[Value.int IntKind.i64 c3, Value.bool A1], Value.int IntKind.i64 c3, Value.bool A1,
          Value.tuple #[Value.int IntKind.i64 T4, Value.bool T5],
          Value.agg #[Value.int IntKind.i64 a0_0, Value.int IntKind.i64 a0_1],
          Value.agg #[Value.int IntKind.i64 a1_0, Value.int IntKind.i64 a1_1, Value.bool a1_2, Value.bool a1_3],
          Value.tuple #[Value.int IntKind.i64 T4, Value.bool T5], Value.int IntKind.i64 T4, Value.bool T5,
          Value.tuple #[Value.int IntKind.i64 d4, Value.bool A2],
          Value.agg #[Value.int IntKind.i64 a0_0, Value.int IntKind.i64 a0_1],
          Value.agg #[Value.int IntKind.i64 a1_0, Value.int IntKind.i64 a1_1, Value.bool a1_2, Value.bool a1_3],
          Value.tuple #[Value.int IntKind.i64 d4, Value.bool A2], Value.int IntKind.i64 d4, Value.bool A2,
          Value.tuple #[Value.int IntKind.i64 T8, Value.bool T9],
          Value.agg #[Value.int IntKind.i64 a0_0, Value.int IntKind.i64 a0_1],
          Value.agg #[Value.int IntKind.i64 a1_0, Value.int IntKind.i64 a1_1, Value.bool a1_2, Value.bool a1_3],
          Value.tuple #[Value.int IntKind.i64 T8, Value.bool T9], Value.int IntKind.i64 T8, Value.bool T9, u129, u130,
          u131, u132, u133, u134, u135, u136, u137, u138, u139, u140, u141, u142, u143, u144, u145, u146, u147, u148,
          u149, u150, u151, u152, u153, u154, u155, u156, u157, u158, u159, u160, u161, u162, u163, u164, u165, u166,
          u167, u168, u169, u170, u171, u172, u173, u174, u175, u176, u177, u178, u179, u180, u181, u182, u183, u184,
          u185, Value.bool false, u187, u188, u189, u190, u191, u192, u193, u194, u195, u196, u197, u198, u199, u200,
          u201, u202, u203, u204, u205, u206, u207, u208, u209, u210, u211, u212, u213, u214, u215, u216, u217, u218,
          u219, u220, u221, u222, u223, u224, u225, u226, u227, u228, u229, u230, u231, u232, u233, u234, u235, u236,
          u237, u238, u239, u240, u241, u242, u243, u244, u245, u246, u247, u248, u249, u250, u251, u252, u253, u254,
          u255, u256, u257, u258, u259, u260, u261, u262, u263, u264, u265, u266, u267, u268, u269, u270, u271, u272,
          u273, u274, u275, u276, u277, u278, u279, u280, u281, u282, u283, u284, u285,
          Value.tuple #[Value.int IntKind.i64 l5, Value.int IntKind.i64 l6, Value.bool j2],
          Value.agg #[Value.int IntKind.i64 a2_0, Value.int IntKind.i64 a2_1],
          Value.tuple #[Value.int IntKind.i64 l5, Value.int IntKind.i64 l6, Value.bool j2], Value.int IntKind.i64 l5,
          Value.int IntKind.i64 l6, Value.bool j2,
          Value.tuple #[Value.int IntKind.i64 U7, Value.int IntKind.i64 U8, Value.bool U9],
          Value.agg #[Value.int IntKind.i64 a2_0, Value.int IntKind.i64 a2_1],
          Value.tuple #[Value.int IntKind.i64 U7, Value.int IntKind.i64 U8, Value.bool U9], Value.int IntKind.i64 U7,
          Value.int IntKind.i64 U8, Value.bool U9,
          Value.tuple #[Value.int IntKind.i64 p4, Value.int IntKind.i64 p5, Value.bool A6],
          Value.agg #[Value.int IntKind.i64 a2_0, Value.int IntKind.i64 a2_1],
          Value.tuple #[Value.int IntKind.i64 p4, Value.int IntKind.i64 p5, Value.bool A6], Value.int IntKind.i64 p4,
          Value.int IntKind.i64 p5, Value.bool A6,
          Value.tuple #[Value.int IntKind.i64 V0, Value.int IntKind.i64 V1, Value.bool V2],
          Value.agg #[Value.int IntKind.i64 a2_0, Value.int IntKind.i64 a2_1],
          Value.tuple #[Value.int IntKind.i64 V0, Value.int IntKind.i64 V1, Value.bool V2], Value.int IntKind.i64 V0,
          Value.int IntKind.i64 V1, Value.bool V2, Value.tuple #[Value.string l7, Value.bool A7],
          Value.agg #[Value.int IntKind.i64 a2_0, Value.int IntKind.i64 a2_1],
          Value.tuple #[Value.string l7, Value.bool A7], Value.string l7, Value.bool A7,
          Value.tuple #[Value.string V3, Value.bool V4],
          Value.agg #[Value.int IntKind.i64 a2_0, Value.int IntKind.i64 a2_1],
          Value.tuple #[Value.string V3, Value.bool V4], Value.string V3, Value.bool V4,
          Value.tuple #[p8, Value.bool l8], Value.int IntKind.i64 a3, Value.tuple #[p8, Value.bool l8], p8,
          Value.bool l8, Value.tuple #[V7, Value.bool V5], Value.int IntKind.i64 a3, Value.tuple #[V7, Value.bool V5],
          V7, Value.bool V5,
          Value.tuple #[Value.agg #[Value.int IntKind.i64 d1, Value.int IntKind.i64 d2], Value.bool j3],
          Value.string a4,
          Value.tuple #[Value.agg #[Value.int IntKind.i64 d1, Value.int IntKind.i64 d2], Value.bool j3],
          Value.agg #[Value.int IntKind.i64 d1, Value.int IntKind.i64 d2], Value.bool j3,
          Value.tuple #[Value.agg #[Value.int IntKind.i64 e7, Value.int IntKind.i64 e8], Value.bool V6],
          Value.string a4,
          Value.tuple #[Value.agg #[Value.int IntKind.i64 e7, Value.int IntKind.i64 e8], Value.bool V6],
          Value.agg #[Value.int IntKind.i64 e7, Value.int IntKind.i64 e8], Value.bool V6, u340, u341, u342, u343, u344,
          u345, u346, u347, u348, u349, u350, u351, u352, u353, u354, u355, u356, u357, u358, u359, u360, u361, u362,
          u363, u364, u365, u366, u367, u368, u369, u370, u371, u372, u373, u374, u375, u376, u377, u378, u379, u380,
          u381, u382, u383, u384, u385, u386, u387, u388, u389, u390, u391, u392, u393, u394, u395, u396, u397, u398,
          u399, u400, u401, u402, u403, u404, u405, u406, u407, u408, u409, u410, u411, u412, u413, u414, u415, u416,
          u417, u418, u419, u420, Value.bool false, u422, u423, u424, u425, u426, u427, u428, u429, u430, u431, u432,
          u433, u434, u435, u436, u437, u438, u439, u440, u441, u442, u443, u444, u445, u446, u447, u448, u449, u450,
          u451, u452, u453, u454, u455, u456, u457, u458, u459, u460, u461, u462, u463, u464, u465, u466, u467, u468,
          u469, u470, u471, u472, u473, u474, u475, u476, u477, u478, u479, u480, u481, u482, u483, u484, u485, u486,
          u487, u488, u489, u490, u491, u492, u493, u494, u495, u496, u497, u498, u499, u500, u501, u502, u503, u504,
          u505, u506, u507, u508, u509, u510, u511, u512, u513, u514, u515, undef, undef, undef, undef, undef, undef,
          undef, undef, undef, undef, undef, undef, undef, undef, undef, undef, undef, undef, undef, undef, undef,
          undef, undef, undef, undef, undef, undef, undef, undef, undef, undef, undef, undef, undef, undef, undef,
          undef, undef, undef, undef, undef, undef, undef, undef, undef, undef, undef, undef, undef, undef, undef,
          undef, undef, undef, undef, undef, undef, undef, undef, undef, undef, undef, undef, undef, undef, undef,
          undef, undef, undef, undef, undef, undef],
      defers := [] }
    wc
end Go.Proofs.YtlmiaadpnbehgaaDoor.PFnBeamsEndOfAll
