-- Written by split3.py: what the rests of the law's code answer, told.
import Derived.Test.YtlmiaadpnbehgaaGreatDoorVM
import Derived.Test.YtlmiaadpnbehgaaGreatDoorVF
import Derived.Test.YtlmiaadpnbehgaaGreatDoorVS
import Derived.Test.YtlmiaadpnbehgaaGreatDoorPFnBeamsEndx0
import Derived.Test.YtlmiaadpnbehgaaGreatDoorPFnBeamsEndx1
import Derived.Test.YtlmiaadpnbehgaaGreatDoorPFnBeamsEndx2
import Derived.Test.YtlmiaadpnbehgaaGreatDoorPFnBeamsEndx3
import Derived.Test.YtlmiaadpnbehgaaGreatDoorPFnBeamsEndx6
import Derived.Test.YtlmiaadpnbehgaaGreatDoorPFnBeamsEndx9
import Derived.Test.YtlmiaadpnbehgaaGreatDoorPFnBeamsEndx13
import Derived.Test.YtlmiaadpnbehgaaGreatDoorPFnBeamsEndx14
import Derived.Test.YtlmiaadpnbehgaaGreatDoorPFnBeamsEndx15
import Derived.Test.YtlmiaadpnbehgaaGreatDoorPFnBeamsEndx16
import Derived.Test.YtlmiaadpnbehgaaGreatDoorPFnBeamsEndx17
import Derived.Test.YtlmiaadpnbehgaaGreatDoorPFnBeamsEndx20
import Derived.Test.YtlmiaadpnbehgaaGreatDoorPFnBeamsEndx21
namespace Go.Proofs.YtlmiaadpnbehgaaGreatDoor.PFnBeamsEnd
open Go.Proofs.YtlmiaadpnbehgaaGreatDoorV Go.RowKit Go.Proofs.YtlmiaadpnbehgaaGreatDoorW.PrintWords Go.Proofs.YtlmiaadpnbehgaaGreatDoorW.PrintLast Go.Proofs.YtlmiaadpnbehgaaGreatDoorW.PrintMore
attribute [local go_sem] max2_int min2_int max_two min_two max_three min_three max_four min_four   -- for this text's walks alone
attribute [local go_sem ↓] rdl_zero rdl_succ eval_lit
set_option linter.unusedVariables false
set_option linter.unusedSimpArgs false
attribute [local go_sem high] eqA25 eqA27
def cl : Code → Code
  | .seq a _ => a
  | c => c
def cr : Code → Code
  | .seq _ b => b
  | c => c
/-- The code behind cut 1. -/
noncomputable def laws_FnBeamsEnd.restCode1 : Code := (cr (cr (cr (cr (cr (cr (cr (cr (cr (cr (cr (cr (cr (Tryz.f3.body.getD .skip))))))))))))))
/-- What it answers. -/
def laws_FnBeamsEnd.RestSaid1 : Prop := ∀ (k : Nat) (A0 : Option Addr) (c0 : Nat) (l0 : List Int) (A1 : Option Addr) (c1 : Nat) (l1 : List Int) (r : Bool) (w : World) (b5 b3 b6 b7 : Int) (b8 b9 : Bool) (c6 : Int) (j6 : Bool) (V3 : Int) (V4 : Bool) (h5 g7 : Int) (C0 : Bool) (V5 V6 : Int) (V7 : Bool) (d1 : Int) (C1 : Bool) (V9 : Int) (X0 : Bool) (e0 : Int) (C2 : Bool) (X3 : Int) (X4 : Bool) (d3 : Nat) (h6 : Nat) (u133 u134 u135 u136 u137 u138 u139 u140 u141 u142 u143 u144 u145 u146 u147 u148 u149 u150 u151 u152 u153 u154 u155 u156 u157 u158 u159 u160 u161 u162 u163 u164 u165 u166 u167 u168 u169 u170 u171 u172 u173 u174 u175 u176 u177 u178 u179 u180 u181 u182 u183 u184 u185 u186 u187 u188 u189 : Value) (b2 : Nat) (wc : World) (u4 u25 u26 u27 u28 u29 u30 u191 u192 u193 u194 u195 u196 u197 u198 u199 u200 u201 u202 u203 u204 u205 u206 u207 u208 u209 u210 u211 u212 u213 u214 u215 u216 u217 u218 u219 u220 u221 u222 u223 u224 u225 u226 u227 u228 u229 u230 u231 u232 u233 u234 u235 u236 u237 u238 u239 u240 u241 u242 u243 u244 u245 u246 u247 u248 u249 u250 u251 u252 u253 u254 u255 u256 u257 u258 u259 u260 u261 u262 u263 u264 u265 u266 u267 u268 u269 u270 u271 u272 u273 u274 u275 u276 u277 u278 u279 u280 u281 u282 u283 u284 u285 u286 u287 u288 u289 : Value) (kq : Nat)
    (HM : Aside0 (PtW w))
    (V1 : Aside0 (Kd.C (Kd.int IntKind.u8) w A0 (List.length l0) l0))
    (V2 : Aside0 (List.length l0 ≤ c0))
    (x4 : Aside0 (Kd.C (Kd.int IntKind.u8) w A1 (List.length l1) l1))
    (x5 : Aside0 (List.length l1 ≤ c1))
    (HT_l : Aside0 (r = true))
    (A3 : Aside0 (laws_big.f l0 l1 = some false))
    (A5 : Aside0 (spec_DrawStepsToCorner.f l0 = some (b5, b3, b6, b7, b8, b9)))
    (A6 : Aside0 (impl_StepsToCorner.f b5 b3 b6 b7 b8 b9 = some (c6, j6)))
    (A7 : Aside0 (spec_StepsToCorner.f k b5 b3 b6 b7 b8 b9 = some (V3, V4)))
    (A8 : Aside0 (impl_CornerOf.f b5 b3 b6 b7 b8 b9 = some (h5, g7, C0)))
    (A9 : Aside0 (spec_CornerOf.f k b5 b3 b6 b7 b8 b9 = some (V5, V6, V7)))
    (A10 : Aside0 (impl_BouncesToCorner.f b5 b3 b6 b7 b8 b9 = some (d1, C1)))
    (A11 : Aside0 (spec_BouncesToCorner.f k b5 b3 b6 b7 b8 b9 = some (V9, X0)))
    (A12 : Aside0 (impl_CountCrossings.f b5 b3 b6 b7 b8 b9 = some (e0, C2)))
    (A13 : Aside0 (spec_CountCrossings.f k b5 b3 b6 b7 b8 b9 = some (X3, X4)))
    (bd7 bd8 : Aside0 (Array.size (World.heap w) ≤ d3))
    (bd9 be0 : Aside0 (Array.size (World.heap w) ≤ h6))
    (e3 : Aside0 (d3 ≠ h6))
    (e4 : Aside0 (h6 ≠ d3))
    (HJ13 : Aside0 (b2 + 1 ≤ k))
    (HA : Aside0 (j2 kq l1 = some r))
    (HJ54 : Aside0 (kq ≤ b2))
    (a2 : Aside0 ((World.heap wc)[d3]? = some (Obj.cells #[Value.int IntKind.i64 b5, Value.int IntKind.i64 b3] 25)))
    (a3 : Aside0 ((World.heap wc)[h6]? = some (Obj.cells #[Value.int IntKind.i64 b6, Value.int IntKind.i64 b7, Value.bool b8, Value.bool b9] 27)))
    (HB : Aside0 (Below (Array.size (World.heap w)) w wc)),
    Code.wp Tryz.prog laws_FnBeamsEnd.restCode1 (bodyPost Tryz.prog Tryz.f3 fun e w' => e = .returned (.bool r) ∧ Below w.heap.size w w')
    {
      tmps :=
        #[Value.slice A0 (List.length l0) c0, Value.slice A1 (List.length l1) c1, undef, undef, u4,
          Value.pointer (some { block := d3, off := 0 }), Value.pointer (some { block := h6, off := 0 }),
          Value.int IntKind.i64 c6, Value.bool j6, Value.int IntKind.i64 V3, Value.bool V4, Value.int IntKind.i64 h5,
          Value.int IntKind.i64 g7, Value.bool C0, Value.int IntKind.i64 V5, Value.int IntKind.i64 V6, Value.bool V7,
          Value.int IntKind.i64 d1, Value.bool C1, Value.int IntKind.i64 V9, Value.bool X0, Value.int IntKind.i64 e0,
          Value.bool C2, Value.int IntKind.i64 X3, Value.bool X4, u25, u26, u27, u28, u29, u30, undef, undef, undef,
          undef, undef, undef, undef, undef, undef, undef, undef, undef, undef, undef, undef, undef, undef, undef,
          undef, undef, undef, undef, undef, undef, undef, undef, undef, undef, undef, undef, undef, undef, undef,
          undef, undef, undef, undef, undef, undef, undef, undef, undef, undef, undef,
          Value.slice A0 (List.length l0) c0, Value.slice A1 (List.length l1) c1, Value.bool false,
          Value.tuple
            #[Value.agg #[Value.int IntKind.i64 b5, Value.int IntKind.i64 b3],
              Value.agg #[Value.int IntKind.i64 b6, Value.int IntKind.i64 b7, Value.bool b8, Value.bool b9]],
          Value.slice A0 (List.length l0) c0,
          Value.tuple
            #[Value.agg #[Value.int IntKind.i64 b5, Value.int IntKind.i64 b3],
              Value.agg #[Value.int IntKind.i64 b6, Value.int IntKind.i64 b7, Value.bool b8, Value.bool b9]],
          Value.agg #[Value.int IntKind.i64 b5, Value.int IntKind.i64 b3],
          Value.agg #[Value.int IntKind.i64 b6, Value.int IntKind.i64 b7, Value.bool b8, Value.bool b9],
          Value.tuple #[Value.int IntKind.i64 c6, Value.bool j6],
          Value.agg #[Value.int IntKind.i64 b5, Value.int IntKind.i64 b3],
          Value.agg #[Value.int IntKind.i64 b6, Value.int IntKind.i64 b7, Value.bool b8, Value.bool b9],
          Value.tuple #[Value.int IntKind.i64 c6, Value.bool j6], Value.int IntKind.i64 c6, Value.bool j6,
          Value.tuple #[Value.int IntKind.i64 V3, Value.bool V4],
          Value.agg #[Value.int IntKind.i64 b5, Value.int IntKind.i64 b3],
          Value.agg #[Value.int IntKind.i64 b6, Value.int IntKind.i64 b7, Value.bool b8, Value.bool b9],
          Value.tuple #[Value.int IntKind.i64 V3, Value.bool V4], Value.int IntKind.i64 V3, Value.bool V4,
          Value.tuple #[Value.int IntKind.i64 h5, Value.int IntKind.i64 g7, Value.bool C0],
          Value.agg #[Value.int IntKind.i64 b5, Value.int IntKind.i64 b3],
          Value.agg #[Value.int IntKind.i64 b6, Value.int IntKind.i64 b7, Value.bool b8, Value.bool b9],
          Value.tuple #[Value.int IntKind.i64 h5, Value.int IntKind.i64 g7, Value.bool C0], Value.int IntKind.i64 h5,
          Value.int IntKind.i64 g7, Value.bool C0,
          Value.tuple #[Value.int IntKind.i64 V5, Value.int IntKind.i64 V6, Value.bool V7],
          Value.agg #[Value.int IntKind.i64 b5, Value.int IntKind.i64 b3],
          Value.agg #[Value.int IntKind.i64 b6, Value.int IntKind.i64 b7, Value.bool b8, Value.bool b9],
          Value.tuple #[Value.int IntKind.i64 V5, Value.int IntKind.i64 V6, Value.bool V7], Value.int IntKind.i64 V5,
          Value.int IntKind.i64 V6, Value.bool V7, Value.tuple #[Value.int IntKind.i64 d1, Value.bool C1],
          Value.agg #[Value.int IntKind.i64 b5, Value.int IntKind.i64 b3],
          Value.agg #[Value.int IntKind.i64 b6, Value.int IntKind.i64 b7, Value.bool b8, Value.bool b9],
          Value.tuple #[Value.int IntKind.i64 d1, Value.bool C1], Value.int IntKind.i64 d1, Value.bool C1,
          Value.tuple #[Value.int IntKind.i64 V9, Value.bool X0],
          Value.agg #[Value.int IntKind.i64 b5, Value.int IntKind.i64 b3],
          Value.agg #[Value.int IntKind.i64 b6, Value.int IntKind.i64 b7, Value.bool b8, Value.bool b9],
          Value.tuple #[Value.int IntKind.i64 V9, Value.bool X0], Value.int IntKind.i64 V9, Value.bool X0,
          Value.tuple #[Value.int IntKind.i64 e0, Value.bool C2],
          Value.agg #[Value.int IntKind.i64 b5, Value.int IntKind.i64 b3],
          Value.agg #[Value.int IntKind.i64 b6, Value.int IntKind.i64 b7, Value.bool b8, Value.bool b9],
          Value.tuple #[Value.int IntKind.i64 e0, Value.bool C2], Value.int IntKind.i64 e0, Value.bool C2,
          Value.tuple #[Value.int IntKind.i64 X3, Value.bool X4],
          Value.agg #[Value.int IntKind.i64 b5, Value.int IntKind.i64 b3],
          Value.agg #[Value.int IntKind.i64 b6, Value.int IntKind.i64 b7, Value.bool b8, Value.bool b9],
          Value.tuple #[Value.int IntKind.i64 X3, Value.bool X4], Value.int IntKind.i64 X3, Value.bool X4, u133, u134,
          u135, u136, u137, u138, u139, u140, u141, u142, u143, u144, u145, u146, u147, u148, u149, u150, u151, u152,
          u153, u154, u155, u156, u157, u158, u159, u160, u161, u162, u163, u164, u165, u166, u167, u168, u169, u170,
          u171, u172, u173, u174, u175, u176, u177, u178, u179, u180, u181, u182, u183, u184, u185, u186, u187, u188,
          u189, Value.bool false, u191, u192, u193, u194, u195, u196, u197, u198, u199, u200, u201, u202, u203, u204,
          u205, u206, u207, u208, u209, u210, u211, u212, u213, u214, u215, u216, u217, u218, u219, u220, u221, u222,
          u223, u224, u225, u226, u227, u228, u229, u230, u231, u232, u233, u234, u235, u236, u237, u238, u239, u240,
          u241, u242, u243, u244, u245, u246, u247, u248, u249, u250, u251, u252, u253, u254, u255, u256, u257, u258,
          u259, u260, u261, u262, u263, u264, u265, u266, u267, u268, u269, u270, u271, u272, u273, u274, u275, u276,
          u277, u278, u279, u280, u281, u282, u283, u284, u285, u286, u287, u288, u289, undef, undef, undef, undef,
          undef, undef, undef, undef, undef, undef, undef, undef, undef, undef, undef, undef, undef, undef, undef,
          undef, undef, undef, undef, undef, undef, undef, undef, undef, undef, undef, undef, undef, undef, undef,
          undef, undef, undef, undef, undef, undef, undef, undef, undef, undef, undef, undef, undef, undef, undef,
          undef, undef, undef, undef, undef, undef, undef, undef, undef, undef, undef, undef, undef, undef, undef,
          undef, undef, undef, undef, undef, undef, undef, undef, undef, undef, undef, undef, undef, undef, undef,
          undef, undef, undef, undef, undef, undef, undef, undef, undef, undef, undef, undef, undef, undef, undef,
          undef, undef, undef, undef, undef, undef, undef, undef, undef, undef, undef, undef, undef, undef, undef,
          undef, undef, undef, undef, undef, undef, undef, undef, undef, undef, undef, undef, undef, undef, undef,
          undef, undef, undef, undef, undef, undef, undef, undef, undef, undef, undef, undef, undef, undef, undef,
          undef, undef, undef, undef, undef, undef, undef, undef, undef, undef, undef, undef, undef, undef, undef,
          undef, undef, undef, undef, undef, undef, undef, undef, undef, undef, undef, undef, undef, undef, undef,
          undef, undef, undef, undef, undef, undef, undef, undef, undef, undef, undef, undef, undef, undef, undef,
          undef, undef, undef, undef, undef, undef, undef, undef, undef, undef, undef, undef, undef, undef, undef,
          undef, undef, undef, undef, undef, undef, undef, undef, undef, undef, undef, undef, undef, undef, undef,
          undef, undef, undef, undef, undef, undef, undef, undef, undef, undef, undef, undef, undef, undef, undef,
          undef, undef, undef, undef, undef, undef, undef, undef, undef, undef, undef, undef, undef, undef, undef,
          undef, undef, undef, undef, undef, undef, undef, undef, undef, undef, undef, undef, undef, undef, undef,
          undef, undef, undef, undef, undef, undef, undef, undef, undef, undef, undef, undef, undef, undef, undef,
          undef, undef, undef, undef, undef, undef, undef, undef, undef, undef, undef, undef, undef, undef, undef,
          undef, undef, undef, undef, undef, undef, undef, undef, undef, undef, undef, undef, undef, undef, undef,
          undef, undef, undef, undef],
      defers := [] }
    wc
/-- The code behind cut 2, and the test ahead of it. -/
noncomputable def laws_FnBeamsEnd.restCode2 : Code := (cr (cr (cr (cr (cr (cr (cr (cr (cr (cr (cr (cr (cr (cr (cr (cr (cr (cr (cr (cr (cr (cr (cr (cr (cr (cr (cr (Tryz.f3.body.getD .skip))))))))))))))))))))))))))))
noncomputable def laws_FnBeamsEnd.testCode2 : Code := (cr (cl (cr (cr (cr (cr (cr (cr (cr (cr (cr (cr (cr (cr (cr (cr (cr (cr (cr (cr (cr (cr (cr (cr (cr (cr (cr (cr (Tryz.f3.body.getD .skip)))))))))))))))))))))))))))))
/-- What it answers. -/
def laws_FnBeamsEnd.RestSaid2 : Prop := ∀ (k : Nat) (A0 : Option Addr) (c0 : Nat) (l0 : List Int) (A1 : Option Addr) (c1 : Nat) (l1 : List Int) (r : Bool) (w : World) (b5 b3 b6 b7 : Int) (b8 b9 : Bool) (c6 : Int) (j6 : Bool) (V3 : Int) (V4 : Bool) (h5 g7 : Int) (C0 : Bool) (V5 V6 : Int) (V7 : Bool) (d1 : Int) (C1 : Bool) (V9 : Int) (X0 : Bool) (e0 : Int) (C2 : Bool) (X3 : Int) (X4 : Bool) (d3 : Nat) (h6 : Nat) (u133 u134 u135 u136 u137 u138 u139 u140 u141 u142 u143 u144 u145 u146 u147 u148 u149 u150 u151 u152 u153 u154 u155 u156 u157 u158 u159 u160 u161 u162 u163 u164 u165 u166 u167 u168 u169 u170 u171 u172 u173 u174 u175 u176 u177 u178 u179 u180 u181 u182 u183 u184 u185 u186 u187 u188 u189 : Value) (b2 : Nat) (u4 u25 u26 u27 u28 u29 u30 u191 u192 u193 u194 u195 u196 u197 u198 u199 u200 u201 u202 u203 u204 u205 u206 u207 u208 u209 u210 u211 u212 u213 u214 u215 u216 u217 u218 u219 u220 u221 u222 u223 u224 u225 u226 u227 u228 u229 u230 u231 u232 u233 u234 u235 u236 u237 u238 u239 u240 u241 u242 u243 u244 u245 u246 u247 u248 u249 u250 u251 u252 u253 u254 u255 u256 u257 u258 u259 u260 u261 u262 u263 u264 u265 u266 u267 u268 u269 u270 u271 u272 u273 u274 u275 u276 u277 u278 u279 u280 u281 u282 u283 u284 u285 u286 u287 u288 u289 : Value) (c8 : Nat) (b0 b1 : Int) (m6 m7 : Int) (j7 : Bool) (Y2 Y3 : Int) (Y4 : Bool) (p9 q0 : Int) (C6 : Bool) (Y5 Y6 : Int) (Y7 : Bool) (m8 : ByteArray) (C7 : Bool) (Y8 : ByteArray) (Y9 : Bool) (h7 : Int) (a8 : List S25) (m9 : Bool) (q1 : List S25) (Z0 : Bool) (h8 : ByteArray) (d7 d8 : Int) (j8 : Bool) (g3 g4 : Int) (Z1 : Bool) (d6 : Nat) (q3 : Value) (Z2 : Value) (c9 : Nat) (c2 : Nat) (wc : World) (u350 u351 u352 u353 u354 u355 u356 u357 u358 u359 u360 u361 u362 u363 u364 u365 u366 u367 u368 u369 u370 u371 u372 u373 u374 u375 u376 u377 u378 u379 u380 u381 u382 u383 u384 u385 u386 u387 u388 u389 u390 u391 u392 u393 u394 u395 u396 u397 u398 u399 u400 u401 u402 u403 u404 u405 u406 u407 u408 u409 u410 u411 u412 u413 u414 u415 u416 u417 u418 u419 u420 u421 u422 u423 u424 u425 u426 u427 u428 u429 u430 : Value) (kq : Nat) (h9 : Bool)
    (HM : Aside0 (PtW w))
    (V1 : Aside0 (Kd.C (Kd.int IntKind.u8) w A0 (List.length l0) l0))
    (V2 : Aside0 (List.length l0 ≤ c0))
    (x4 : Aside0 (Kd.C (Kd.int IntKind.u8) w A1 (List.length l1) l1))
    (x5 : Aside0 (List.length l1 ≤ c1))
    (HT_l : Aside0 (r = true))
    (A3 : Aside0 (laws_big.f l0 l1 = some false))
    (A5 : Aside0 (spec_DrawStepsToCorner.f l0 = some (b5, b3, b6, b7, b8, b9)))
    (A6 : Aside0 (impl_StepsToCorner.f b5 b3 b6 b7 b8 b9 = some (c6, j6)))
    (A7 : Aside0 (spec_StepsToCorner.f k b5 b3 b6 b7 b8 b9 = some (V3, V4)))
    (A8 : Aside0 (impl_CornerOf.f b5 b3 b6 b7 b8 b9 = some (h5, g7, C0)))
    (A9 : Aside0 (spec_CornerOf.f k b5 b3 b6 b7 b8 b9 = some (V5, V6, V7)))
    (A10 : Aside0 (impl_BouncesToCorner.f b5 b3 b6 b7 b8 b9 = some (d1, C1)))
    (A11 : Aside0 (spec_BouncesToCorner.f k b5 b3 b6 b7 b8 b9 = some (V9, X0)))
    (A12 : Aside0 (impl_CountCrossings.f b5 b3 b6 b7 b8 b9 = some (e0, C2)))
    (A13 : Aside0 (spec_CountCrossings.f k b5 b3 b6 b7 b8 b9 = some (X3, X4)))
    (bd7 bd8 : Aside0 (Array.size (World.heap w) ≤ d3))
    (bd9 be0 : Aside0 (Array.size (World.heap w) ≤ h6))
    (e3 : Aside0 (d3 ≠ h6))
    (e4 : Aside0 (h6 ≠ d3))
    (HJ13 : Aside0 (b2 + 1 ≤ k))
    (HJ54 : Aside0 (c8 + 1 ≤ b2))
    (a99 : Aside0 (spec_DrawMainBounces.f l1 = some (b0, b1)))
    (aa0 : Aside0 (impl_MainBounces.f c8 b0 b1 = some (m6, m7, j7)))
    (aa1 : Aside0 (spec_MainBounces.f c8 b0 b1 = some (Y2, Y3, Y4)))
    (aa2 : Aside0 (impl_MainCorner.f c8 b0 b1 = some (p9, q0, C6)))
    (aa3 : Aside0 (spec_MainCorner.f c8 b0 b1 = some (Y5, Y6, Y7)))
    (aa4 : Aside0 (impl_TableText.f b0 b1 = some (m8, C7)))
    (aa5 : Aside0 (spec_TableText.f c8 b0 b1 = some (Y8, Y9)))
    (aa6 : Aside0 (spec_DrawTablesFor.f l1 = some h7))
    (aa7 : Aside0 (impl_TablesFor.f c8 h7 = some (a8, m9)))
    (aa8 : Aside0 (spec_TablesFor.f c8 h7 = some (q1, Z0)))
    (aa9 : Aside0 (spec_DrawParseTable.f c8 l1 = some h8))
    (ab0 : Aside0 (impl_ParseTable.f h8 = some (d7, d8, j8)))
    (ab1 : Aside0 (spec_ParseTable.f c8 h8 = some (g3, g4, Z1)))
    (bl1 bl2 : Aside0 (Array.size (World.heap w) ≤ d6))
    (k7 : Aside0 (d3 ≠ d6))
    (k8 : Aside0 (d6 ≠ d3))
    (k9 : Aside0 (h6 ≠ d6))
    (l2 : Aside0 (d6 ≠ h6))
    (bl3 bl4 : Aside0 (Array.size (World.heap w) ≤ c9))
    (l3 : Aside0 (d3 ≠ c9))
    (l4 : Aside0 (c9 ≠ d3))
    (l5 : Aside0 (h6 ≠ c9))
    (l6 : Aside0 (c9 ≠ h6))
    (i0 : Aside0 (d6 ≠ c9))
    (i1 : Aside0 (c9 ≠ d6))
    (bl5 bl6 : Aside0 (Array.size (World.heap w) ≤ c2))
    (y2 : Aside0 (d3 ≠ c2))
    (y3 : Aside0 (c2 ≠ d3))
    (y4 : Aside0 (h6 ≠ c2))
    (y5 : Aside0 (c2 ≠ h6))
    (l7 : Aside0 (d6 ≠ c2))
    (l8 : Aside0 (c2 ≠ d6))
    (l9 : Aside0 (c9 ≠ c2))
    (m0 : Aside0 (c2 ≠ c9))
    (HA : Aside0 (j3 kq m6 m7 j7 p9 q0 m8 h7 a8 m9 h8 j8 h9 b0 b1 d7 d8 = some r))
    (HJ174 : Aside0 (kq ≤ c8))
    (a9 : Aside0 (Kd.R k25 25 wc (Array.size (World.heap w)) (fun k_ => k_ ≠ d3 ∧ k_ ≠ d6 ∧ k_ ≠ c9 ∧ k_ ≠ c2) q3 a8))
    (a2 : Aside0 ((World.heap wc)[d3]? = some (Obj.cells #[Value.int IntKind.i64 b5, Value.int IntKind.i64 b3] 25)))
    (a3 : Aside0 ((World.heap wc)[h6]? = some (Obj.cells #[Value.int IntKind.i64 b6, Value.int IntKind.i64 b7, Value.bool b8, Value.bool b9] 27)))
    (a4 : Aside0 ((World.heap wc)[d6]? = some (Obj.cells #[Value.int IntKind.i64 b0, Value.int IntKind.i64 b1] 25)))
    (a5 : Aside0 ((World.heap wc)[c9]? = some (Obj.cells #[Value.int IntKind.i64 d7, Value.int IntKind.i64 d8] 25)))
    (a7 : Aside0 ((World.heap wc)[c2]? = some (Obj.cells #[Value.int IntKind.i64 g3, Value.int IntKind.i64 g4] 25)))
    (HB : Aside0 (Below (Array.size (World.heap w)) w wc)),
    ∀ K : Act → World → Prop, (∀ a w', Code.wp Tryz.prog laws_FnBeamsEnd.restCode2 (bodyPost Tryz.prog Tryz.f3 fun e w' => e = .returned (.bool r) ∧ Below w.heap.size w w') a w' → K a w') →
    Code.wp Tryz.prog laws_FnBeamsEnd.testCode2 (Exit.then K (bodyPost Tryz.prog Tryz.f3 fun e w' => e = .returned (.bool r) ∧ Below w.heap.size w w'))
    {
      tmps :=
        #[Value.slice A0 (List.length l0) c0, Value.slice A1 (List.length l1) c1, undef, undef, u4,
          Value.pointer (some { block := d3, off := 0 }), Value.pointer (some { block := h6, off := 0 }),
          Value.int IntKind.i64 c6, Value.bool j6, Value.int IntKind.i64 V3, Value.bool V4, Value.int IntKind.i64 h5,
          Value.int IntKind.i64 g7, Value.bool C0, Value.int IntKind.i64 V5, Value.int IntKind.i64 V6, Value.bool V7,
          Value.int IntKind.i64 d1, Value.bool C1, Value.int IntKind.i64 V9, Value.bool X0, Value.int IntKind.i64 e0,
          Value.bool C2, Value.int IntKind.i64 X3, Value.bool X4, u25, u26, u27, u28, u29, u30,
          Value.pointer (some { block := d6, off := 0 }), Value.int IntKind.i64 m6, Value.int IntKind.i64 m7,
          Value.bool j7, Value.int IntKind.i64 Y2, Value.int IntKind.i64 Y3, Value.bool Y4, Value.int IntKind.i64 p9,
          Value.int IntKind.i64 q0, Value.bool C6, Value.int IntKind.i64 Y5, Value.int IntKind.i64 Y6, Value.bool Y7,
          Value.string m8, Value.bool C7, Value.string Y8, Value.bool Y9, Value.int IntKind.i64 h7, q3, Value.bool m9,
          Z2, Value.bool Z0, Value.string h8, Value.pointer (some { block := c9, off := 0 }), Value.bool j8,
          Value.pointer (some { block := c2, off := 0 }), Value.bool Z1, undef, undef, undef, undef, undef, undef,
          undef, undef, undef, undef, undef, undef, undef, undef, undef, undef, undef,
          Value.slice A0 (List.length l0) c0, Value.slice A1 (List.length l1) c1, Value.bool false,
          Value.tuple
            #[Value.agg #[Value.int IntKind.i64 b5, Value.int IntKind.i64 b3],
              Value.agg #[Value.int IntKind.i64 b6, Value.int IntKind.i64 b7, Value.bool b8, Value.bool b9]],
          Value.slice A0 (List.length l0) c0,
          Value.tuple
            #[Value.agg #[Value.int IntKind.i64 b5, Value.int IntKind.i64 b3],
              Value.agg #[Value.int IntKind.i64 b6, Value.int IntKind.i64 b7, Value.bool b8, Value.bool b9]],
          Value.agg #[Value.int IntKind.i64 b5, Value.int IntKind.i64 b3],
          Value.agg #[Value.int IntKind.i64 b6, Value.int IntKind.i64 b7, Value.bool b8, Value.bool b9],
          Value.tuple #[Value.int IntKind.i64 c6, Value.bool j6],
          Value.agg #[Value.int IntKind.i64 b5, Value.int IntKind.i64 b3],
          Value.agg #[Value.int IntKind.i64 b6, Value.int IntKind.i64 b7, Value.bool b8, Value.bool b9],
          Value.tuple #[Value.int IntKind.i64 c6, Value.bool j6], Value.int IntKind.i64 c6, Value.bool j6,
          Value.tuple #[Value.int IntKind.i64 V3, Value.bool V4],
          Value.agg #[Value.int IntKind.i64 b5, Value.int IntKind.i64 b3],
          Value.agg #[Value.int IntKind.i64 b6, Value.int IntKind.i64 b7, Value.bool b8, Value.bool b9],
          Value.tuple #[Value.int IntKind.i64 V3, Value.bool V4], Value.int IntKind.i64 V3, Value.bool V4,
          Value.tuple #[Value.int IntKind.i64 h5, Value.int IntKind.i64 g7, Value.bool C0],
          Value.agg #[Value.int IntKind.i64 b5, Value.int IntKind.i64 b3],
          Value.agg #[Value.int IntKind.i64 b6, Value.int IntKind.i64 b7, Value.bool b8, Value.bool b9],
          Value.tuple #[Value.int IntKind.i64 h5, Value.int IntKind.i64 g7, Value.bool C0], Value.int IntKind.i64 h5,
          Value.int IntKind.i64 g7, Value.bool C0,
          Value.tuple #[Value.int IntKind.i64 V5, Value.int IntKind.i64 V6, Value.bool V7],
          Value.agg #[Value.int IntKind.i64 b5, Value.int IntKind.i64 b3],
          Value.agg #[Value.int IntKind.i64 b6, Value.int IntKind.i64 b7, Value.bool b8, Value.bool b9],
          Value.tuple #[Value.int IntKind.i64 V5, Value.int IntKind.i64 V6, Value.bool V7], Value.int IntKind.i64 V5,
          Value.int IntKind.i64 V6, Value.bool V7, Value.tuple #[Value.int IntKind.i64 d1, Value.bool C1],
          Value.agg #[Value.int IntKind.i64 b5, Value.int IntKind.i64 b3],
          Value.agg #[Value.int IntKind.i64 b6, Value.int IntKind.i64 b7, Value.bool b8, Value.bool b9],
          Value.tuple #[Value.int IntKind.i64 d1, Value.bool C1], Value.int IntKind.i64 d1, Value.bool C1,
          Value.tuple #[Value.int IntKind.i64 V9, Value.bool X0],
          Value.agg #[Value.int IntKind.i64 b5, Value.int IntKind.i64 b3],
          Value.agg #[Value.int IntKind.i64 b6, Value.int IntKind.i64 b7, Value.bool b8, Value.bool b9],
          Value.tuple #[Value.int IntKind.i64 V9, Value.bool X0], Value.int IntKind.i64 V9, Value.bool X0,
          Value.tuple #[Value.int IntKind.i64 e0, Value.bool C2],
          Value.agg #[Value.int IntKind.i64 b5, Value.int IntKind.i64 b3],
          Value.agg #[Value.int IntKind.i64 b6, Value.int IntKind.i64 b7, Value.bool b8, Value.bool b9],
          Value.tuple #[Value.int IntKind.i64 e0, Value.bool C2], Value.int IntKind.i64 e0, Value.bool C2,
          Value.tuple #[Value.int IntKind.i64 X3, Value.bool X4],
          Value.agg #[Value.int IntKind.i64 b5, Value.int IntKind.i64 b3],
          Value.agg #[Value.int IntKind.i64 b6, Value.int IntKind.i64 b7, Value.bool b8, Value.bool b9],
          Value.tuple #[Value.int IntKind.i64 X3, Value.bool X4], Value.int IntKind.i64 X3, Value.bool X4, u133, u134,
          u135, u136, u137, u138, u139, u140, u141, u142, u143, u144, u145, u146, u147, u148, u149, u150, u151, u152,
          u153, u154, u155, u156, u157, u158, u159, u160, u161, u162, u163, u164, u165, u166, u167, u168, u169, u170,
          u171, u172, u173, u174, u175, u176, u177, u178, u179, u180, u181, u182, u183, u184, u185, u186, u187, u188,
          u189, Value.bool false, u191, u192, u193, u194, u195, u196, u197, u198, u199, u200, u201, u202, u203, u204,
          u205, u206, u207, u208, u209, u210, u211, u212, u213, u214, u215, u216, u217, u218, u219, u220, u221, u222,
          u223, u224, u225, u226, u227, u228, u229, u230, u231, u232, u233, u234, u235, u236, u237, u238, u239, u240,
          u241, u242, u243, u244, u245, u246, u247, u248, u249, u250, u251, u252, u253, u254, u255, u256, u257, u258,
          u259, u260, u261, u262, u263, u264, u265, u266, u267, u268, u269, u270, u271, u272, u273, u274, u275, u276,
          u277, u278, u279, u280, u281, u282, u283, u284, u285, u286, u287, u288, u289,
          Value.slice A1 (List.length l1) c1, Value.agg #[Value.int IntKind.i64 b0, Value.int IntKind.i64 b1],
          Value.tuple #[Value.int IntKind.i64 m6, Value.int IntKind.i64 m7, Value.bool j7],
          Value.agg #[Value.int IntKind.i64 b0, Value.int IntKind.i64 b1],
          Value.tuple #[Value.int IntKind.i64 m6, Value.int IntKind.i64 m7, Value.bool j7], Value.int IntKind.i64 m6,
          Value.int IntKind.i64 m7, Value.bool j7,
          Value.tuple #[Value.int IntKind.i64 Y2, Value.int IntKind.i64 Y3, Value.bool Y4],
          Value.agg #[Value.int IntKind.i64 b0, Value.int IntKind.i64 b1],
          Value.tuple #[Value.int IntKind.i64 Y2, Value.int IntKind.i64 Y3, Value.bool Y4], Value.int IntKind.i64 Y2,
          Value.int IntKind.i64 Y3, Value.bool Y4,
          Value.tuple #[Value.int IntKind.i64 p9, Value.int IntKind.i64 q0, Value.bool C6],
          Value.agg #[Value.int IntKind.i64 b0, Value.int IntKind.i64 b1],
          Value.tuple #[Value.int IntKind.i64 p9, Value.int IntKind.i64 q0, Value.bool C6], Value.int IntKind.i64 p9,
          Value.int IntKind.i64 q0, Value.bool C6,
          Value.tuple #[Value.int IntKind.i64 Y5, Value.int IntKind.i64 Y6, Value.bool Y7],
          Value.agg #[Value.int IntKind.i64 b0, Value.int IntKind.i64 b1],
          Value.tuple #[Value.int IntKind.i64 Y5, Value.int IntKind.i64 Y6, Value.bool Y7], Value.int IntKind.i64 Y5,
          Value.int IntKind.i64 Y6, Value.bool Y7, Value.tuple #[Value.string m8, Value.bool C7],
          Value.agg #[Value.int IntKind.i64 b0, Value.int IntKind.i64 b1],
          Value.tuple #[Value.string m8, Value.bool C7], Value.string m8, Value.bool C7,
          Value.tuple #[Value.string Y8, Value.bool Y9],
          Value.agg #[Value.int IntKind.i64 b0, Value.int IntKind.i64 b1],
          Value.tuple #[Value.string Y8, Value.bool Y9], Value.string Y8, Value.bool Y9,
          Value.slice A1 (List.length l1) c1, Value.int IntKind.i64 h7, Value.tuple #[q3, Value.bool m9],
          Value.int IntKind.i64 h7, Value.tuple #[q3, Value.bool m9], q3, Value.bool m9,
          Value.tuple #[Z2, Value.bool Z0], Value.int IntKind.i64 h7, Value.tuple #[Z2, Value.bool Z0], Z2,
          Value.bool Z0, Value.slice A1 (List.length l1) c1, Value.string h8,
          Value.tuple #[Value.agg #[Value.int IntKind.i64 d7, Value.int IntKind.i64 d8], Value.bool j8],
          Value.string h8,
          Value.tuple #[Value.agg #[Value.int IntKind.i64 d7, Value.int IntKind.i64 d8], Value.bool j8],
          Value.agg #[Value.int IntKind.i64 d7, Value.int IntKind.i64 d8], Value.bool j8,
          Value.tuple #[Value.agg #[Value.int IntKind.i64 g3, Value.int IntKind.i64 g4], Value.bool Z1],
          Value.string h8,
          Value.tuple #[Value.agg #[Value.int IntKind.i64 g3, Value.int IntKind.i64 g4], Value.bool Z1],
          Value.agg #[Value.int IntKind.i64 g3, Value.int IntKind.i64 g4], Value.bool Z1, u350, u351, u352, u353, u354,
          u355, u356, u357, u358, u359, u360, u361, u362, u363, u364, u365, u366, u367, u368, u369, u370, u371, u372,
          u373, u374, u375, u376, u377, u378, u379, u380, u381, u382, u383, u384, u385, u386, u387, u388, u389, u390,
          u391, u392, u393, u394, u395, u396, u397, u398, u399, u400, u401, u402, u403, u404, u405, u406, u407, u408,
          u409, u410, u411, u412, u413, u414, u415, u416, u417, u418, u419, u420, u421, u422, u423, u424, u425, u426,
          u427, u428, u429, u430, Value.bool h9, undef, undef, undef, undef, undef, undef, undef, undef, undef, undef,
          undef, undef, undef, undef, undef, undef, undef, undef, undef, undef, undef, undef, undef, undef, undef,
          undef, undef, undef, undef, undef, undef, undef, undef, undef, undef, undef, undef, undef, undef, undef,
          undef, undef, undef, undef, undef, undef, undef, undef, undef, undef, undef, undef, undef, undef, undef,
          undef, undef, undef, undef, undef, undef, undef, undef, undef, undef, undef, undef, undef, undef, undef,
          undef, undef, undef, undef, undef, undef, undef, undef, undef, undef, undef, undef, undef, undef, undef,
          undef, undef, undef, undef, undef, undef, undef, undef, undef, undef, undef, undef, undef, undef, undef,
          undef, undef, undef, undef, undef, undef, undef, undef, undef, undef, undef, undef, undef, undef, undef,
          undef, undef, undef, undef, undef, undef, undef, undef, undef, undef, undef, undef, undef, undef, undef,
          undef, undef, undef, undef, undef, undef, undef, undef, undef, undef, undef, undef, undef, undef, undef,
          undef, undef, undef, undef, undef, undef, undef, undef, undef, undef, undef, undef, undef, undef, undef,
          undef, undef, undef, undef, undef, undef],
      defers := [] }
    wc
/-- The code behind cut 3. -/
noncomputable def laws_FnBeamsEnd.restCode3 : Code := (cr (cr (cr (cr (cr (cr (cr (cr (cr (cr (cr (cr (cr (cr (cr (cr (cr (cr (cr (cr (cr (cr (cr (cr (cr (cr (cr (cr (Tryz.f3.body.getD .skip)))))))))))))))))))))))))))))
/-- What it answers. -/
def laws_FnBeamsEnd.RestSaid3 : Prop := ∀ (k : Nat) (A0 : Option Addr) (c0 : Nat) (l0 : List Int) (A1 : Option Addr) (c1 : Nat) (l1 : List Int) (r : Bool) (w : World) (b5 b3 b6 b7 : Int) (b8 b9 : Bool) (c6 : Int) (j6 : Bool) (V3 : Int) (V4 : Bool) (h5 g7 : Int) (C0 : Bool) (V5 V6 : Int) (V7 : Bool) (d1 : Int) (C1 : Bool) (V9 : Int) (X0 : Bool) (e0 : Int) (C2 : Bool) (X3 : Int) (X4 : Bool) (d3 : Nat) (h6 : Nat) (u133 u134 u135 u136 u137 u138 u139 u140 u141 u142 u143 u144 u145 u146 u147 u148 u149 u150 u151 u152 u153 u154 u155 u156 u157 u158 u159 u160 u161 u162 u163 u164 u165 u166 u167 u168 u169 u170 u171 u172 u173 u174 u175 u176 u177 u178 u179 u180 u181 u182 u183 u184 u185 u186 u187 u188 u189 : Value) (b2 : Nat) (u25 u26 u27 u28 u29 u30 u191 u192 u193 u194 u195 u196 u197 u198 u199 u200 u201 u202 u203 u204 u205 u206 u207 u208 u209 u210 u211 u212 u213 u214 u215 u216 u217 u218 u219 u220 u221 u222 u223 u224 u225 u226 u227 u228 u229 u230 u231 u232 u233 u234 u235 u236 u237 u238 u239 u240 u241 u242 u243 u244 u245 u246 u247 u248 u249 u250 u251 u252 u253 u254 u255 u256 u257 u258 u259 u260 u261 u262 u263 u264 u265 u266 u267 u268 u269 u270 u271 u272 u273 u274 u275 u276 u277 u278 u279 u280 u281 u282 u283 u284 u285 u286 u287 u288 u289 : Value) (c8 : Nat) (b0 b1 : Int) (m6 m7 : Int) (j7 : Bool) (Y2 Y3 : Int) (Y4 : Bool) (p9 q0 : Int) (C6 : Bool) (Y5 Y6 : Int) (Y7 : Bool) (m8 : ByteArray) (C7 : Bool) (Y8 : ByteArray) (Y9 : Bool) (h7 : Int) (a8 : List S25) (m9 : Bool) (q1 : List S25) (Z0 : Bool) (h8 : ByteArray) (d7 d8 : Int) (j8 : Bool) (g3 g4 : Int) (Z1 : Bool) (d6 : Nat) (q3 : Value) (Z2 : Value) (c9 : Nat) (c2 : Nat) (u350 u351 u352 u353 u354 u355 u356 u357 u358 u359 u360 u361 u362 u363 u364 u365 u366 u367 u368 u369 u370 u371 u372 u373 u374 u375 u376 u377 u378 u379 u380 u381 u382 u383 u384 u385 u386 u387 u388 u389 u390 u391 u392 u393 u394 u395 u396 u397 u398 u399 u400 u401 u402 u403 u404 u405 u406 u407 u408 u409 u410 u411 u412 u413 u414 u415 u416 u417 u418 u419 u420 u421 u422 u423 u424 u425 u426 u427 u428 u429 u430 : Value) (a10 : Nat) (wc : World) (u4 u58 u59 u60 u61 u62 u63 u64 u65 u66 u67 u432 u433 u434 u435 u436 u437 u438 u439 u440 u441 u442 u443 u444 u445 u446 u447 u448 u449 u450 u451 u452 u453 u454 u455 u456 u457 u458 u459 u460 u461 u462 u463 u464 u465 u466 u467 u468 u469 u470 u471 u472 u473 u474 u475 u476 u477 u478 u479 u480 u481 u482 u483 u484 u485 u486 u487 u488 u489 u490 u491 u492 u493 u494 u495 u496 u497 u498 u499 u500 u501 u502 u503 u504 u505 u506 u507 u508 u509 u510 u511 u512 u513 u514 u515 u516 u517 u518 u519 u520 u521 u522 u523 u524 u525 : Value) (kq : Nat)
    (HM : Aside0 (PtW w))
    (V1 : Aside0 (Kd.C (Kd.int IntKind.u8) w A0 (List.length l0) l0))
    (V2 : Aside0 (List.length l0 ≤ c0))
    (x4 : Aside0 (Kd.C (Kd.int IntKind.u8) w A1 (List.length l1) l1))
    (x5 : Aside0 (List.length l1 ≤ c1))
    (HT_l : Aside0 (r = true))
    (A3 : Aside0 (laws_big.f l0 l1 = some false))
    (A5 : Aside0 (spec_DrawStepsToCorner.f l0 = some (b5, b3, b6, b7, b8, b9)))
    (A6 : Aside0 (impl_StepsToCorner.f b5 b3 b6 b7 b8 b9 = some (c6, j6)))
    (A7 : Aside0 (spec_StepsToCorner.f k b5 b3 b6 b7 b8 b9 = some (V3, V4)))
    (A8 : Aside0 (impl_CornerOf.f b5 b3 b6 b7 b8 b9 = some (h5, g7, C0)))
    (A9 : Aside0 (spec_CornerOf.f k b5 b3 b6 b7 b8 b9 = some (V5, V6, V7)))
    (A10 : Aside0 (impl_BouncesToCorner.f b5 b3 b6 b7 b8 b9 = some (d1, C1)))
    (A11 : Aside0 (spec_BouncesToCorner.f k b5 b3 b6 b7 b8 b9 = some (V9, X0)))
    (A12 : Aside0 (impl_CountCrossings.f b5 b3 b6 b7 b8 b9 = some (e0, C2)))
    (A13 : Aside0 (spec_CountCrossings.f k b5 b3 b6 b7 b8 b9 = some (X3, X4)))
    (bd7 bd8 : Aside0 (Array.size (World.heap w) ≤ d3))
    (bd9 be0 : Aside0 (Array.size (World.heap w) ≤ h6))
    (e3 : Aside0 (d3 ≠ h6))
    (e4 : Aside0 (h6 ≠ d3))
    (HJ13 : Aside0 (b2 + 1 ≤ k))
    (HJ54 : Aside0 (c8 + 1 ≤ b2))
    (a99 : Aside0 (spec_DrawMainBounces.f l1 = some (b0, b1)))
    (aa0 : Aside0 (impl_MainBounces.f c8 b0 b1 = some (m6, m7, j7)))
    (aa1 : Aside0 (spec_MainBounces.f c8 b0 b1 = some (Y2, Y3, Y4)))
    (aa2 : Aside0 (impl_MainCorner.f c8 b0 b1 = some (p9, q0, C6)))
    (aa3 : Aside0 (spec_MainCorner.f c8 b0 b1 = some (Y5, Y6, Y7)))
    (aa4 : Aside0 (impl_TableText.f b0 b1 = some (m8, C7)))
    (aa5 : Aside0 (spec_TableText.f c8 b0 b1 = some (Y8, Y9)))
    (aa6 : Aside0 (spec_DrawTablesFor.f l1 = some h7))
    (aa7 : Aside0 (impl_TablesFor.f c8 h7 = some (a8, m9)))
    (aa8 : Aside0 (spec_TablesFor.f c8 h7 = some (q1, Z0)))
    (aa9 : Aside0 (spec_DrawParseTable.f c8 l1 = some h8))
    (ab0 : Aside0 (impl_ParseTable.f h8 = some (d7, d8, j8)))
    (ab1 : Aside0 (spec_ParseTable.f c8 h8 = some (g3, g4, Z1)))
    (bl1 bl2 : Aside0 (Array.size (World.heap w) ≤ d6))
    (k7 : Aside0 (d3 ≠ d6))
    (k8 : Aside0 (d6 ≠ d3))
    (k9 : Aside0 (h6 ≠ d6))
    (l2 : Aside0 (d6 ≠ h6))
    (bl3 bl4 : Aside0 (Array.size (World.heap w) ≤ c9))
    (l3 : Aside0 (d3 ≠ c9))
    (l4 : Aside0 (c9 ≠ d3))
    (l5 : Aside0 (h6 ≠ c9))
    (l6 : Aside0 (c9 ≠ h6))
    (i0 : Aside0 (d6 ≠ c9))
    (i1 : Aside0 (c9 ≠ d6))
    (bl5 bl6 : Aside0 (Array.size (World.heap w) ≤ c2))
    (y2 : Aside0 (d3 ≠ c2))
    (y3 : Aside0 (c2 ≠ d3))
    (y4 : Aside0 (h6 ≠ c2))
    (y5 : Aside0 (c2 ≠ h6))
    (l7 : Aside0 (d6 ≠ c2))
    (l8 : Aside0 (c2 ≠ d6))
    (l9 : Aside0 (c9 ≠ c2))
    (m0 : Aside0 (c2 ≠ c9))
    (HJ174 : Aside0 (a10 + 1 ≤ c8))
    (HA : Aside0 (j4 kq h7 a8 m9 h8 j8 d7 d8 = some r))
    (HJ235 : Aside0 (kq ≤ a10))
    (a9 : Aside0 (Kd.R k25 25 wc (Array.size (World.heap w)) (fun k_ => k_ ≠ d3 ∧ k_ ≠ d6 ∧ k_ ≠ c9 ∧ k_ ≠ c2) q3 a8))
    (a2 : Aside0 ((World.heap wc)[d3]? = some (Obj.cells #[Value.int IntKind.i64 b5, Value.int IntKind.i64 b3] 25)))
    (a3 : Aside0 ((World.heap wc)[h6]? = some (Obj.cells #[Value.int IntKind.i64 b6, Value.int IntKind.i64 b7, Value.bool b8, Value.bool b9] 27)))
    (a4 : Aside0 ((World.heap wc)[d6]? = some (Obj.cells #[Value.int IntKind.i64 b0, Value.int IntKind.i64 b1] 25)))
    (a5 : Aside0 ((World.heap wc)[c9]? = some (Obj.cells #[Value.int IntKind.i64 d7, Value.int IntKind.i64 d8] 25)))
    (a7 : Aside0 ((World.heap wc)[c2]? = some (Obj.cells #[Value.int IntKind.i64 g3, Value.int IntKind.i64 g4] 25)))
    (HB : Aside0 (Below (Array.size (World.heap w)) w wc)),
    Code.wp Tryz.prog laws_FnBeamsEnd.restCode3 (bodyPost Tryz.prog Tryz.f3 fun e w' => e = .returned (.bool r) ∧ Below w.heap.size w w')
    {
      tmps :=
        #[Value.slice A0 (List.length l0) c0, Value.slice A1 (List.length l1) c1, undef, undef, u4,
          Value.pointer (some { block := d3, off := 0 }), Value.pointer (some { block := h6, off := 0 }),
          Value.int IntKind.i64 c6, Value.bool j6, Value.int IntKind.i64 V3, Value.bool V4, Value.int IntKind.i64 h5,
          Value.int IntKind.i64 g7, Value.bool C0, Value.int IntKind.i64 V5, Value.int IntKind.i64 V6, Value.bool V7,
          Value.int IntKind.i64 d1, Value.bool C1, Value.int IntKind.i64 V9, Value.bool X0, Value.int IntKind.i64 e0,
          Value.bool C2, Value.int IntKind.i64 X3, Value.bool X4, u25, u26, u27, u28, u29, u30,
          Value.pointer (some { block := d6, off := 0 }), Value.int IntKind.i64 m6, Value.int IntKind.i64 m7,
          Value.bool j7, Value.int IntKind.i64 Y2, Value.int IntKind.i64 Y3, Value.bool Y4, Value.int IntKind.i64 p9,
          Value.int IntKind.i64 q0, Value.bool C6, Value.int IntKind.i64 Y5, Value.int IntKind.i64 Y6, Value.bool Y7,
          Value.string m8, Value.bool C7, Value.string Y8, Value.bool Y9, Value.int IntKind.i64 h7, q3, Value.bool m9,
          Z2, Value.bool Z0, Value.string h8, Value.pointer (some { block := c9, off := 0 }), Value.bool j8,
          Value.pointer (some { block := c2, off := 0 }), Value.bool Z1, u58, u59, u60, u61, u62, u63, u64, u65, u66,
          u67, undef, undef, undef, undef, undef, undef, undef, Value.slice A0 (List.length l0) c0,
          Value.slice A1 (List.length l1) c1, Value.bool false,
          Value.tuple
            #[Value.agg #[Value.int IntKind.i64 b5, Value.int IntKind.i64 b3],
              Value.agg #[Value.int IntKind.i64 b6, Value.int IntKind.i64 b7, Value.bool b8, Value.bool b9]],
          Value.slice A0 (List.length l0) c0,
          Value.tuple
            #[Value.agg #[Value.int IntKind.i64 b5, Value.int IntKind.i64 b3],
              Value.agg #[Value.int IntKind.i64 b6, Value.int IntKind.i64 b7, Value.bool b8, Value.bool b9]],
          Value.agg #[Value.int IntKind.i64 b5, Value.int IntKind.i64 b3],
          Value.agg #[Value.int IntKind.i64 b6, Value.int IntKind.i64 b7, Value.bool b8, Value.bool b9],
          Value.tuple #[Value.int IntKind.i64 c6, Value.bool j6],
          Value.agg #[Value.int IntKind.i64 b5, Value.int IntKind.i64 b3],
          Value.agg #[Value.int IntKind.i64 b6, Value.int IntKind.i64 b7, Value.bool b8, Value.bool b9],
          Value.tuple #[Value.int IntKind.i64 c6, Value.bool j6], Value.int IntKind.i64 c6, Value.bool j6,
          Value.tuple #[Value.int IntKind.i64 V3, Value.bool V4],
          Value.agg #[Value.int IntKind.i64 b5, Value.int IntKind.i64 b3],
          Value.agg #[Value.int IntKind.i64 b6, Value.int IntKind.i64 b7, Value.bool b8, Value.bool b9],
          Value.tuple #[Value.int IntKind.i64 V3, Value.bool V4], Value.int IntKind.i64 V3, Value.bool V4,
          Value.tuple #[Value.int IntKind.i64 h5, Value.int IntKind.i64 g7, Value.bool C0],
          Value.agg #[Value.int IntKind.i64 b5, Value.int IntKind.i64 b3],
          Value.agg #[Value.int IntKind.i64 b6, Value.int IntKind.i64 b7, Value.bool b8, Value.bool b9],
          Value.tuple #[Value.int IntKind.i64 h5, Value.int IntKind.i64 g7, Value.bool C0], Value.int IntKind.i64 h5,
          Value.int IntKind.i64 g7, Value.bool C0,
          Value.tuple #[Value.int IntKind.i64 V5, Value.int IntKind.i64 V6, Value.bool V7],
          Value.agg #[Value.int IntKind.i64 b5, Value.int IntKind.i64 b3],
          Value.agg #[Value.int IntKind.i64 b6, Value.int IntKind.i64 b7, Value.bool b8, Value.bool b9],
          Value.tuple #[Value.int IntKind.i64 V5, Value.int IntKind.i64 V6, Value.bool V7], Value.int IntKind.i64 V5,
          Value.int IntKind.i64 V6, Value.bool V7, Value.tuple #[Value.int IntKind.i64 d1, Value.bool C1],
          Value.agg #[Value.int IntKind.i64 b5, Value.int IntKind.i64 b3],
          Value.agg #[Value.int IntKind.i64 b6, Value.int IntKind.i64 b7, Value.bool b8, Value.bool b9],
          Value.tuple #[Value.int IntKind.i64 d1, Value.bool C1], Value.int IntKind.i64 d1, Value.bool C1,
          Value.tuple #[Value.int IntKind.i64 V9, Value.bool X0],
          Value.agg #[Value.int IntKind.i64 b5, Value.int IntKind.i64 b3],
          Value.agg #[Value.int IntKind.i64 b6, Value.int IntKind.i64 b7, Value.bool b8, Value.bool b9],
          Value.tuple #[Value.int IntKind.i64 V9, Value.bool X0], Value.int IntKind.i64 V9, Value.bool X0,
          Value.tuple #[Value.int IntKind.i64 e0, Value.bool C2],
          Value.agg #[Value.int IntKind.i64 b5, Value.int IntKind.i64 b3],
          Value.agg #[Value.int IntKind.i64 b6, Value.int IntKind.i64 b7, Value.bool b8, Value.bool b9],
          Value.tuple #[Value.int IntKind.i64 e0, Value.bool C2], Value.int IntKind.i64 e0, Value.bool C2,
          Value.tuple #[Value.int IntKind.i64 X3, Value.bool X4],
          Value.agg #[Value.int IntKind.i64 b5, Value.int IntKind.i64 b3],
          Value.agg #[Value.int IntKind.i64 b6, Value.int IntKind.i64 b7, Value.bool b8, Value.bool b9],
          Value.tuple #[Value.int IntKind.i64 X3, Value.bool X4], Value.int IntKind.i64 X3, Value.bool X4, u133, u134,
          u135, u136, u137, u138, u139, u140, u141, u142, u143, u144, u145, u146, u147, u148, u149, u150, u151, u152,
          u153, u154, u155, u156, u157, u158, u159, u160, u161, u162, u163, u164, u165, u166, u167, u168, u169, u170,
          u171, u172, u173, u174, u175, u176, u177, u178, u179, u180, u181, u182, u183, u184, u185, u186, u187, u188,
          u189, Value.bool false, u191, u192, u193, u194, u195, u196, u197, u198, u199, u200, u201, u202, u203, u204,
          u205, u206, u207, u208, u209, u210, u211, u212, u213, u214, u215, u216, u217, u218, u219, u220, u221, u222,
          u223, u224, u225, u226, u227, u228, u229, u230, u231, u232, u233, u234, u235, u236, u237, u238, u239, u240,
          u241, u242, u243, u244, u245, u246, u247, u248, u249, u250, u251, u252, u253, u254, u255, u256, u257, u258,
          u259, u260, u261, u262, u263, u264, u265, u266, u267, u268, u269, u270, u271, u272, u273, u274, u275, u276,
          u277, u278, u279, u280, u281, u282, u283, u284, u285, u286, u287, u288, u289,
          Value.slice A1 (List.length l1) c1, Value.agg #[Value.int IntKind.i64 b0, Value.int IntKind.i64 b1],
          Value.tuple #[Value.int IntKind.i64 m6, Value.int IntKind.i64 m7, Value.bool j7],
          Value.agg #[Value.int IntKind.i64 b0, Value.int IntKind.i64 b1],
          Value.tuple #[Value.int IntKind.i64 m6, Value.int IntKind.i64 m7, Value.bool j7], Value.int IntKind.i64 m6,
          Value.int IntKind.i64 m7, Value.bool j7,
          Value.tuple #[Value.int IntKind.i64 Y2, Value.int IntKind.i64 Y3, Value.bool Y4],
          Value.agg #[Value.int IntKind.i64 b0, Value.int IntKind.i64 b1],
          Value.tuple #[Value.int IntKind.i64 Y2, Value.int IntKind.i64 Y3, Value.bool Y4], Value.int IntKind.i64 Y2,
          Value.int IntKind.i64 Y3, Value.bool Y4,
          Value.tuple #[Value.int IntKind.i64 p9, Value.int IntKind.i64 q0, Value.bool C6],
          Value.agg #[Value.int IntKind.i64 b0, Value.int IntKind.i64 b1],
          Value.tuple #[Value.int IntKind.i64 p9, Value.int IntKind.i64 q0, Value.bool C6], Value.int IntKind.i64 p9,
          Value.int IntKind.i64 q0, Value.bool C6,
          Value.tuple #[Value.int IntKind.i64 Y5, Value.int IntKind.i64 Y6, Value.bool Y7],
          Value.agg #[Value.int IntKind.i64 b0, Value.int IntKind.i64 b1],
          Value.tuple #[Value.int IntKind.i64 Y5, Value.int IntKind.i64 Y6, Value.bool Y7], Value.int IntKind.i64 Y5,
          Value.int IntKind.i64 Y6, Value.bool Y7, Value.tuple #[Value.string m8, Value.bool C7],
          Value.agg #[Value.int IntKind.i64 b0, Value.int IntKind.i64 b1],
          Value.tuple #[Value.string m8, Value.bool C7], Value.string m8, Value.bool C7,
          Value.tuple #[Value.string Y8, Value.bool Y9],
          Value.agg #[Value.int IntKind.i64 b0, Value.int IntKind.i64 b1],
          Value.tuple #[Value.string Y8, Value.bool Y9], Value.string Y8, Value.bool Y9,
          Value.slice A1 (List.length l1) c1, Value.int IntKind.i64 h7, Value.tuple #[q3, Value.bool m9],
          Value.int IntKind.i64 h7, Value.tuple #[q3, Value.bool m9], q3, Value.bool m9,
          Value.tuple #[Z2, Value.bool Z0], Value.int IntKind.i64 h7, Value.tuple #[Z2, Value.bool Z0], Z2,
          Value.bool Z0, Value.slice A1 (List.length l1) c1, Value.string h8,
          Value.tuple #[Value.agg #[Value.int IntKind.i64 d7, Value.int IntKind.i64 d8], Value.bool j8],
          Value.string h8,
          Value.tuple #[Value.agg #[Value.int IntKind.i64 d7, Value.int IntKind.i64 d8], Value.bool j8],
          Value.agg #[Value.int IntKind.i64 d7, Value.int IntKind.i64 d8], Value.bool j8,
          Value.tuple #[Value.agg #[Value.int IntKind.i64 g3, Value.int IntKind.i64 g4], Value.bool Z1],
          Value.string h8,
          Value.tuple #[Value.agg #[Value.int IntKind.i64 g3, Value.int IntKind.i64 g4], Value.bool Z1],
          Value.agg #[Value.int IntKind.i64 g3, Value.int IntKind.i64 g4], Value.bool Z1, u350, u351, u352, u353, u354,
          u355, u356, u357, u358, u359, u360, u361, u362, u363, u364, u365, u366, u367, u368, u369, u370, u371, u372,
          u373, u374, u375, u376, u377, u378, u379, u380, u381, u382, u383, u384, u385, u386, u387, u388, u389, u390,
          u391, u392, u393, u394, u395, u396, u397, u398, u399, u400, u401, u402, u403, u404, u405, u406, u407, u408,
          u409, u410, u411, u412, u413, u414, u415, u416, u417, u418, u419, u420, u421, u422, u423, u424, u425, u426,
          u427, u428, u429, u430, Value.bool false, u432, u433, u434, u435, u436, u437, u438, u439, u440, u441, u442,
          u443, u444, u445, u446, u447, u448, u449, u450, u451, u452, u453, u454, u455, u456, u457, u458, u459, u460,
          u461, u462, u463, u464, u465, u466, u467, u468, u469, u470, u471, u472, u473, u474, u475, u476, u477, u478,
          u479, u480, u481, u482, u483, u484, u485, u486, u487, u488, u489, u490, u491, u492, u493, u494, u495, u496,
          u497, u498, u499, u500, u501, u502, u503, u504, u505, u506, u507, u508, u509, u510, u511, u512, u513, u514,
          u515, u516, u517, u518, u519, u520, u521, u522, u523, u524, u525, undef, undef, undef, undef, undef, undef,
          undef, undef, undef, undef, undef, undef, undef, undef, undef, undef, undef, undef, undef, undef, undef,
          undef, undef, undef, undef, undef, undef, undef, undef, undef, undef, undef, undef, undef, undef, undef,
          undef, undef, undef, undef, undef, undef, undef, undef, undef, undef, undef, undef, undef, undef, undef,
          undef, undef, undef, undef, undef, undef, undef, undef, undef, undef, undef, undef, undef, undef, undef,
          undef, undef, undef, undef, undef, undef],
      defers := [] }
    wc
end Go.Proofs.YtlmiaadpnbehgaaGreatDoor.PFnBeamsEnd
