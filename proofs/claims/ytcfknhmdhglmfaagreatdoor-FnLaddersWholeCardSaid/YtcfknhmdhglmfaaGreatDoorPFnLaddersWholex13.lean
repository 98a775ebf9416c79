-- Written by split3.py: what the rests of the law's code answer, told.
import Derived.Test.YtcfknhmdhglmfaaGreatDoorVM
import Derived.Test.YtcfknhmdhglmfaaGreatDoorVF
import Derived.Test.YtcfknhmdhglmfaaGreatDoorPFnLaddersWholex0
import Derived.Test.YtcfknhmdhglmfaaGreatDoorPFnLaddersWholex1
import Derived.Test.YtcfknhmdhglmfaaGreatDoorPFnLaddersWholex2
import Derived.Test.YtcfknhmdhglmfaaGreatDoorPFnLaddersWholex3
import Derived.Test.YtcfknhmdhglmfaaGreatDoorPFnLaddersWholex4
import Derived.Test.YtcfknhmdhglmfaaGreatDoorPFnLaddersWholex5
import Derived.Test.YtcfknhmdhglmfaaGreatDoorPFnLaddersWholex6
import Derived.Test.YtcfknhmdhglmfaaGreatDoorPFnLaddersWholex7
import Derived.Test.YtcfknhmdhglmfaaGreatDoorPFnLaddersWholex8
import Derived.Test.YtcfknhmdhglmfaaGreatDoorPFnLaddersWholex11
import Derived.Test.YtcfknhmdhglmfaaGreatDoorPFnLaddersWholex12
namespace Go.Proofs.YtcfknhmdhglmfaaGreatDoor.PFnLaddersWhole
open Go.Proofs.YtcfknhmdhglmfaaGreatDoorV Go.RowKit Go.Proofs.YtcfknhmdhglmfaaGreatDoorW.PrintWords Go.Proofs.YtcfknhmdhglmfaaGreatDoorW.PrintLast Go.Proofs.YtcfknhmdhglmfaaGreatDoorW.PrintMore
attribute [local go_sem] max2_int min2_int max_two min_two max_three min_three max_four min_four   -- for this text's walks alone
attribute [local go_sem ↓] rdl_zero rdl_succ eval_lit
set_option linter.unusedVariables false
set_option linter.unusedSimpArgs false
attribute [local go_sem high] eqA25
def cl : Code → Code
  | .seq a _ => a
  | c => c
def cr : Code → Code
  | .seq _ b => b
  | c => c
/-- The code behind cut 1. -/
noncomputable def laws_FnLaddersWhole.restCode1 : Code := (cr (cr (cr (cr (cr (cr (cr (cr (cr (cr (cr (Tryz.f3.body.getD .skip))))))))))))
/-- What it answers. -/
def laws_FnLaddersWhole.RestSaid1 : Prop := ∀ (k : Nat) (A0 : Option Addr) (c0 : Nat) (l0 : List Int) (A1 : Option Addr) (c1 : Nat) (l1 : List Int) (r : Bool) (w : World) (d2 d3 d4 : Int) (v9 x0 : Int) (uz0 : Bool) (a86 a87 : Int) (a88 : Bool) (uz1 uz2 : Int) (x2 : Bool) (a89 a90 : Int) (a91 : Bool) (x3 M1 : Bool) (a92 a93 : Bool) (e0 : Nat) (u122 u123 u124 u125 u126 u127 u128 u129 u130 u131 u132 u133 u134 u135 u136 u137 u138 u139 u140 u141 u142 u143 u144 u145 u146 u147 u148 u149 u150 u151 u152 u153 u154 u155 u156 u157 u158 u159 u160 u161 u162 u163 u164 u165 u166 u167 u168 u169 u170 u171 u172 u173 u174 u175 u176 : Value) (x5 : Nat) (wc : World) (u0 u4 u22 u23 u24 u179 u180 u181 u182 u183 u184 u185 u186 u187 u188 u189 u190 u191 u192 u193 u194 u195 u196 u197 u198 u199 u200 u201 u202 u203 u204 u205 u206 u207 u208 u209 u210 u211 u212 u213 u214 u215 u216 u217 u218 u219 u220 u221 u222 u223 u224 u225 u226 u227 u228 u229 u230 u231 u232 u233 u234 u235 u236 u237 u238 u239 u240 u241 u242 u243 u244 u245 u246 u247 u248 u249 u250 u251 u252 u253 u254 u255 u256 u257 u258 : Value) (kq : Nat)
    (HM : Aside0 (PtW w))
    (E4 : Aside0 (Kd.C (Kd.int IntKind.u8) w A0 (List.length l0) l0))
    (E5 : Aside0 (List.length l0 ≤ c0))
    (p7 : Aside0 (Kd.C (Kd.int IntKind.u8) w A1 (List.length l1) l1))
    (p8 : Aside0 (List.length l1 ≤ c1))
    (HT_l : Aside0 (r = true))
    (A3 : Aside0 (laws_big.f l0 l1 = some false))
    (A5 : Aside0 (spec_DrawSquaresOf.f l0 = some (d2, d3, d4)))
    (A6 : Aside0 (impl_SquaresOf.f d2 d3 d4 = some (v9, x0, uz0)))
    (A7 : Aside0 (spec_SquaresOf.f d2 d3 d4 = some (a86, a87, a88)))
    (A8 : Aside0 (impl_LengthsOf.f k d2 d3 d4 = some (uz1, uz2, x2)))
    (A9 : Aside0 (spec_LengthsOf.f k d2 d3 d4 = some (a89, a90, a91)))
    (A10 : Aside0 (impl_IsWholeCrossing.f k d2 d3 d4 = some (x3, M1)))
    (A11 : Aside0 (spec_IsWholeCrossing.f k d2 d3 d4 = some (a92, a93)))
    (b94 b95 : Aside0 (Array.size (World.heap w) ≤ e0))
    (HJ11 : Aside0 (x5 + 1 ≤ k))
    (HA : Aside0 (j1 kq l1 = some r))
    (HJ43 : Aside0 (kq ≤ x5))
    (a2 : Aside0 ((World.heap wc)[e0]? = some (Obj.cells #[Value.int IntKind.i64 d2, Value.int IntKind.i64 d3, Value.int IntKind.i64 d4] 25)))
    (HB : Aside0 (Below (Array.size (World.heap w)) w wc)),
    Code.wp Tryz.prog laws_FnLaddersWhole.restCode1 (bodyPost Tryz.prog Tryz.f3 fun e w' => e = .returned (.bool r) ∧ Below w.heap.size w w')
    {
      tmps :=
        #[u0, Value.slice A1 (List.length l1) c1, undef, undef, u4, Value.pointer (some { block := e0, off := 0 }),
          Value.int IntKind.i64 v9, Value.int IntKind.i64 x0, Value.bool uz0, Value.int IntKind.i64 a86,
          Value.int IntKind.i64 a87, Value.bool a88, Value.int IntKind.i64 uz1, Value.int IntKind.i64 uz2,
          Value.bool x2, Value.int IntKind.i64 a89, Value.int IntKind.i64 a90, Value.bool a91, Value.bool x3,
          Value.bool M1, Value.bool a92, Value.bool a93, u22, u23, u24, undef, undef, undef, undef, undef, undef, undef,
          undef, undef, undef, undef, undef, undef, undef, undef, undef, undef, undef, undef, undef, undef, undef,
          undef, undef, undef, undef, undef, undef, undef, undef, undef, undef, undef, undef, undef, undef, undef,
          undef, undef, undef, undef, undef, undef, undef, undef, undef, undef, undef, undef, undef, undef, undef,
          undef, undef, undef, undef, undef, undef, Value.slice A0 (List.length l0) c0,
          Value.slice A1 (List.length l1) c1, Value.bool false, Value.slice A0 (List.length l0) c0,
          Value.agg #[Value.int IntKind.i64 d2, Value.int IntKind.i64 d3, Value.int IntKind.i64 d4],
          Value.tuple #[Value.int IntKind.i64 v9, Value.int IntKind.i64 x0, Value.bool uz0],
          Value.agg #[Value.int IntKind.i64 d2, Value.int IntKind.i64 d3, Value.int IntKind.i64 d4],
          Value.tuple #[Value.int IntKind.i64 v9, Value.int IntKind.i64 x0, Value.bool uz0], Value.int IntKind.i64 v9,
          Value.int IntKind.i64 x0, Value.bool uz0,
          Value.tuple #[Value.int IntKind.i64 a86, Value.int IntKind.i64 a87, Value.bool a88],
          Value.agg #[Value.int IntKind.i64 d2, Value.int IntKind.i64 d3, Value.int IntKind.i64 d4],
          Value.tuple #[Value.int IntKind.i64 a86, Value.int IntKind.i64 a87, Value.bool a88],
          Value.int IntKind.i64 a86, Value.int IntKind.i64 a87, Value.bool a88,
          Value.tuple #[Value.int IntKind.i64 uz1, Value.int IntKind.i64 uz2, Value.bool x2],
          Value.agg #[Value.int IntKind.i64 d2, Value.int IntKind.i64 d3, Value.int IntKind.i64 d4],
          Value.tuple #[Value.int IntKind.i64 uz1, Value.int IntKind.i64 uz2, Value.bool x2], Value.int IntKind.i64 uz1,
          Value.int IntKind.i64 uz2, Value.bool x2,
          Value.tuple #[Value.int IntKind.i64 a89, Value.int IntKind.i64 a90, Value.bool a91],
          Value.agg #[Value.int IntKind.i64 d2, Value.int IntKind.i64 d3, Value.int IntKind.i64 d4],
          Value.tuple #[Value.int IntKind.i64 a89, Value.int IntKind.i64 a90, Value.bool a91],
          Value.int IntKind.i64 a89, Value.int IntKind.i64 a90, Value.bool a91,
          Value.tuple #[Value.bool x3, Value.bool M1],
          Value.agg #[Value.int IntKind.i64 d2, Value.int IntKind.i64 d3, Value.int IntKind.i64 d4],
          Value.tuple #[Value.bool x3, Value.bool M1], Value.bool x3, Value.bool M1,
          Value.tuple #[Value.bool a92, Value.bool a93],
          Value.agg #[Value.int IntKind.i64 d2, Value.int IntKind.i64 d3, Value.int IntKind.i64 d4],
          Value.tuple #[Value.bool a92, Value.bool a93], Value.bool a92, Value.bool a93, u122, u123, u124, u125, u126,
          u127, u128, u129, u130, u131, u132, u133, u134, u135, u136, u137, u138, u139, u140, u141, u142, u143, u144,
          u145, u146, u147, u148, u149, u150, u151, u152, u153, u154, u155, u156, u157, u158, u159, u160, u161, u162,
          u163, u164, u165, u166, u167, u168, u169, u170, u171, u172, u173, u174, u175, u176, Value.bool false,
          Value.bool uz0, u179, u180, u181, u182, u183, u184, u185, u186, u187, u188, u189, u190, u191, u192, u193,
          u194, u195, u196, u197, u198, u199, u200, u201, u202, u203, u204, u205, u206, u207, u208, u209, u210, u211,
          u212, u213, u214, u215, u216, u217, u218, u219, u220, u221, u222, u223, u224, u225, u226, u227, u228, u229,
          u230, u231, u232, u233, u234, u235, u236, u237, u238, u239, u240, u241, u242, u243, u244, u245, u246, u247,
          u248, u249, u250, u251, u252, u253, u254, u255, u256, u257, u258, undef, undef, undef, undef, undef, undef,
          undef, undef, undef, undef, undef, undef, undef, undef, undef, undef, undef, undef, undef, undef, undef,
          undef, undef, undef, undef, undef, undef, undef, undef, undef, undef, undef, undef, undef, undef, undef,
          undef, undef, undef, undef, undef, undef, undef, undef, undef, undef, undef, undef, undef, undef, undef,
          undef, undef, undef, undef, undef, undef, undef, undef, undef, undef, undef, undef, undef, undef, undef,
          undef, undef, undef, undef, undef, undef, undef, undef, undef, undef, undef, undef, undef, undef, undef,
          undef, undef, undef, undef, undef, undef, undef, undef, undef, undef, undef, undef, undef, undef, undef,
          undef, undef, undef, undef, undef, undef, undef, undef, undef, undef, undef, undef, undef, undef, undef,
          undef, undef, undef, undef, undef, undef, undef, undef, undef, undef, undef, undef, undef, undef, undef,
          undef, undef, undef, undef, undef, undef, undef, undef, undef, undef, undef, undef, undef, undef, undef,
          undef, undef, undef, undef, undef, undef, undef, undef, undef, undef, undef, undef, undef, undef, undef,
          undef, undef, undef, undef, undef, undef, undef, undef, undef, undef, undef, undef, undef, undef, undef,
          undef, undef, undef, undef, undef, undef, undef, undef, undef, undef, undef, undef, undef, undef, undef,
          undef, undef, undef, undef, undef, undef, undef, undef, undef, undef, undef, undef, undef, undef, undef,
          undef, undef, undef, undef, undef, undef, undef, undef, undef, undef, undef, undef, undef, undef, undef,
          undef, undef, undef, undef, undef, undef, undef, undef, undef, undef, undef, undef, undef, undef, undef,
          undef, undef, undef, undef, undef, undef, undef, undef, undef, undef, undef, undef, undef, undef, undef,
          undef, undef, undef, undef, undef, undef, undef, undef, undef, undef, undef, undef, undef, undef, undef,
          undef, undef, undef, undef, undef, undef, undef, undef, undef, undef, undef, undef, undef, undef, undef,
          undef, undef, undef, undef, undef, undef, undef, undef, undef, undef, undef, undef, undef, undef, undef,
          undef, undef, undef, undef, undef, undef, undef, undef, undef, undef, undef, undef, undef, undef, undef,
          undef, undef, undef, undef, undef, undef, undef, undef, undef, undef, undef, undef, undef, undef, undef,
          undef, undef, undef, undef, undef, undef, undef, undef, undef, undef, undef, undef, undef, undef, undef,
          undef, undef, undef, undef, undef, undef, undef, undef, undef, undef, undef, undef, undef, undef, undef,
          undef, undef, undef, undef, undef, undef, undef, undef, undef, undef, undef, undef, undef, undef, undef,
          undef, undef, undef, undef, undef, undef, undef, undef, undef, undef, undef, undef, undef, undef, undef,
          undef, undef, undef, undef, undef, undef, undef],
      defers := [] }
    wc
/-- The code behind cut 2, and the test ahead of it. -/
noncomputable def laws_FnLaddersWhole.restCode2 : Code := (cr (cr (cr (cr (cr (cr (cr (cr (cr (cr (cr (cr (cr (cr (cr (cr (cr (cr (cr (cr (cr (cr (cr (cr (cr (cr (cr (cr (Tryz.f3.body.getD .skip)))))))))))))))))))))))))))))
noncomputable def laws_FnLaddersWhole.testCode2 : Code := (cr (cl (cr (cr (cr (cr (cr (cr (cr (cr (cr (cr (cr (cr (cr (cr (cr (cr (cr (cr (cr (cr (cr (cr (cr (cr (cr (cr (cr (Tryz.f3.body.getD .skip))))))))))))))))))))))))))))))
/-- What it answers. -/
def laws_FnLaddersWhole.RestSaid2 : Prop := ∀ (k : Nat) (A0 : Option Addr) (c0 : Nat) (l0 : List Int) (A1 : Option Addr) (c1 : Nat) (l1 : List Int) (r : Bool) (w : World) (d2 d3 d4 : Int) (v9 x0 : Int) (uz0 : Bool) (a86 a87 : Int) (a88 : Bool) (uz1 uz2 : Int) (x2 : Bool) (a89 a90 : Int) (a91 : Bool) (x3 M1 : Bool) (a92 a93 : Bool) (e0 : Nat) (u122 u123 u124 u125 u126 u127 u128 u129 u130 u131 u132 u133 u134 u135 u136 u137 u138 u139 u140 u141 u142 u143 u144 u145 u146 u147 u148 u149 u150 u151 u152 u153 u154 u155 u156 u157 u158 u159 u160 u161 u162 u163 u164 u165 u166 u167 u168 u169 u170 u171 u172 u173 u174 u175 u176 : Value) (x5 : Nat) (u0 u4 u22 u23 u24 u179 u180 u181 u182 u183 u184 u185 u186 u187 u188 u189 u190 u191 u192 u193 u194 u195 u196 u197 u198 u199 u200 u201 u202 u203 u204 u205 u206 u207 u208 u209 u210 u211 u212 u213 u214 u215 u216 u217 u218 u219 u220 u221 u222 u223 u224 u225 u226 u227 u228 u229 u230 u231 u232 u233 u234 u235 u236 u237 u238 u239 u240 u241 u242 u243 u244 u245 u246 u247 u248 u249 u250 u251 u252 u253 u254 u255 u256 u257 u258 : Value) (d1 : Nat) (o6 : Int) (c2 : List (List Int)) (y2 : Bool) (o7 : List (List Int)) (a94 : Bool) (y3 : Int) (M2 : Bool) (a95 : Int) (a96 : Bool) (o4 : Int) (b1 : List S25) (r8 : Bool) (o8 : List S25) (a97 : Bool) (e5 e6 e7 q1 : Int) (q2 : Bool) (m6 m7 m8 a98 : Int) (a99 : Bool) (d7 d8 d9 o9 : Int) (i6 i7 i9 : Int) (q5 : Bool) (m9 n0 n1 : Int) (aa0 : Bool) (p2 : ByteArray) (j0 j1 j2 : Int) (q3 : Bool) (e8 e9 g0 : Int) (aa1 : Bool) (aa2 : Value) (bk1 : Value) (K1 : Value) (bk2 : Value) (c3 : Nat) (c5 : Nat) (c6 : Nat) (c7 : Nat) (c8 : Nat) (c9 : Nat) (b4 : Nat) (wc : World) (u334 u335 u336 u337 u338 u339 u340 u341 u342 u343 u344 u345 u346 u347 u348 u349 u350 u351 u352 u353 u354 u355 u356 u357 u358 u359 u360 u361 u362 u363 u364 u365 u366 u367 u368 u369 u370 u371 u372 u373 u374 u375 u376 u377 u378 u379 u380 u381 u382 u383 u384 u385 u386 u387 u388 u389 u390 u391 u392 u393 u394 u395 u396 u397 u398 u399 u400 u401 u402 u403 u404 u405 u406 u407 u408 u409 u410 u411 u412 : Value) (kq : Nat) (v4 : Bool)
    (HM : Aside0 (PtW w))
    (E4 : Aside0 (Kd.C (Kd.int IntKind.u8) w A0 (List.length l0) l0))
    (E5 : Aside0 (List.length l0 ≤ c0))
    (p7 : Aside0 (Kd.C (Kd.int IntKind.u8) w A1 (List.length l1) l1))
    (p8 : Aside0 (List.length l1 ≤ c1))
    (HT_l : Aside0 (r = true))
    (A3 : Aside0 (laws_big.f l0 l1 = some false))
    (A5 : Aside0 (spec_DrawSquaresOf.f l0 = some (d2, d3, d4)))
    (A6 : Aside0 (impl_SquaresOf.f d2 d3 d4 = some (v9, x0, uz0)))
    (A7 : Aside0 (spec_SquaresOf.f d2 d3 d4 = some (a86, a87, a88)))
    (A8 : Aside0 (impl_LengthsOf.f k d2 d3 d4 = some (uz1, uz2, x2)))
    (A9 : Aside0 (spec_LengthsOf.f k d2 d3 d4 = some (a89, a90, a91)))
    (A10 : Aside0 (impl_IsWholeCrossing.f k d2 d3 d4 = some (x3, M1)))
    (A11 : Aside0 (spec_IsWholeCrossing.f k d2 d3 d4 = some (a92, a93)))
    (b94 b95 : Aside0 (Array.size (World.heap w) ≤ e0))
    (HJ11 : Aside0 (x5 + 1 ≤ k))
    (HJ43 : Aside0 (d1 + 1 ≤ x5))
    (A66 : Aside0 (spec_DrawPairsFor.f l1 = some o6))
    (A67 : Aside0 (impl_PairsFor.f d1 o6 = some (c2, y2)))
    (A68 : Aside0 (spec_PairsFor.f d1 o6 = some (o7, a94)))
    (A69 : Aside0 (impl_CountPairs.f d1 o6 = some (y3, M2)))
    (A70 : Aside0 (spec_CountPairs.f d1 o6 = some (a95, a96)))
    (A71 : Aside0 (spec_DrawWholeCrossings.f l1 = some o4))
    (A72 : Aside0 (impl_WholeCrossings.f d1 o4 = some (b1, r8)))
    (A73 : Aside0 (spec_WholeCrossings.f d1 o4 = some (o8, a97)))
    (A74 : Aside0 (impl_LowestWhole.f d1 o4 = some (e5, e6, e7, q1, q2)))
    (A75 : Aside0 (spec_LowestWhole.f d1 o4 = some (m6, m7, m8, a98, a99)))
    (A76 : Aside0 (spec_DrawTimesLadders.f l1 = some (d7, d8, d9, o9)))
    (A77 : Aside0 (impl_TimesLadders.f d1 d7 d8 d9 o9 = some (i6, i7, i9, q5)))
    (A78 : Aside0 (spec_TimesLadders.f d1 d7 d8 d9 o9 = some (m9, n0, n1, aa0)))
    (A79 : Aside0 (spec_DrawParseLadders.f d1 l1 = some p2))
    (A80 : Aside0 (impl_ParseLadders.f d1 p2 = some (j0, j1, j2, q3)))
    (A81 : Aside0 (spec_ParseLadders.f d1 p2 = some (e8, e9, g0, aa1)))
    (bc4 bc5 : Aside0 (Array.size (World.heap w) ≤ c3))
    (g1 : Aside0 (e0 ≠ c3))
    (g2 : Aside0 (c3 ≠ e0))
    (bc8 bc9 : Aside0 (Array.size (World.heap w) ≤ c5))
    (n2 : Aside0 (e0 ≠ c5))
    (n3 : Aside0 (c5 ≠ e0))
    (g3 : Aside0 (c3 ≠ c5))
    (g4 : Aside0 (c5 ≠ c3))
    (bd4 bd5 : Aside0 (Array.size (World.heap w) ≤ c6))
    (p4 : Aside0 (e0 ≠ c6))
    (p5 : Aside0 (c6 ≠ e0))
    (e1 : Aside0 (c3 ≠ c6))
    (e2 : Aside0 (c6 ≠ c3))
    (k8 : Aside0 (c5 ≠ c6))
    (k9 : Aside0 (c6 ≠ c5))
    (bd6 bd7 : Aside0 (Array.size (World.heap w) ≤ c7))
    (j5 : Aside0 (e0 ≠ c7))
    (j6 : Aside0 (c7 ≠ e0))
    (d5 : Aside0 (c3 ≠ c7))
    (d6 : Aside0 (c7 ≠ c3))
    (j7 : Aside0 (c5 ≠ c7))
    (j8 : Aside0 (c7 ≠ c5))
    (l2 : Aside0 (c6 ≠ c7))
    (l3 : Aside0 (c7 ≠ c6))
    (bd8 bd9 : Aside0 (Array.size (World.heap w) ≤ c8))
    (n4 : Aside0 (e0 ≠ c8))
    (n5 : Aside0 (c8 ≠ e0))
    (g5 : Aside0 (c3 ≠ c8))
    (g6 : Aside0 (c8 ≠ c3))
    (n6 : Aside0 (c5 ≠ c8))
    (n7 : Aside0 (c8 ≠ c5))
    (l4 : Aside0 (c6 ≠ c8))
    (l5 : Aside0 (c8 ≠ c6))
    (j9 : Aside0 (c7 ≠ c8))
    (k0 : Aside0 (c8 ≠ c7))
    (be0 be1 : Aside0 (Array.size (World.heap w) ≤ c9))
    (l6 : Aside0 (e0 ≠ c9))
    (l7 : Aside0 (c9 ≠ e0))
    (e3 : Aside0 (c3 ≠ c9))
    (e4 : Aside0 (c9 ≠ c3))
    (l8 : Aside0 (c5 ≠ c9))
    (l9 : Aside0 (c9 ≠ c5))
    (k4 : Aside0 (c6 ≠ c9))
    (k6 : Aside0 (c9 ≠ c6))
    (j3 : Aside0 (c7 ≠ c9))
    (j4 : Aside0 (c9 ≠ c7))
    (m0 : Aside0 (c8 ≠ c9))
    (m1 : Aside0 (c9 ≠ c8))
    (be2 be3 : Aside0 (Array.size (World.heap w) ≤ b4))
    (n8 : Aside0 (e0 ≠ b4))
    (n9 : Aside0 (b4 ≠ e0))
    (g7 : Aside0 (c3 ≠ b4))
    (g8 : Aside0 (b4 ≠ c3))
    (o0 : Aside0 (c5 ≠ b4))
    (o1 : Aside0 (b4 ≠ c5))
    (m2 : Aside0 (c6 ≠ b4))
    (m3 : Aside0 (b4 ≠ c6))
    (k1 : Aside0 (c7 ≠ b4))
    (k2 : Aside0 (b4 ≠ c7))
    (o2 : Aside0 (c8 ≠ b4))
    (o3 : Aside0 (b4 ≠ c8))
    (m4 : Aside0 (c9 ≠ b4))
    (m5 : Aside0 (b4 ≠ c9))
    (HA : Aside0 (laws_FnLaddersWhole.j2 kq o6 c2 y2 y3 o4 b1 r8 q1 q2 o9 q5 p2 q3 v4 e5 e6 e7 d7 d8 d9 i6 i7 i9 j0 j1 j2 = some r))
    (HJ81 : Aside0 (kq ≤ d1))
    (p3 : Aside0 (Kd.S (Kd.slice 3 (Kd.int IntKind.i64)) 51 wc (Array.size (World.heap w)) (fun x => True) aa2 c2))
    (p6 : Aside0 (Kd.R k25 25 wc (Array.size (World.heap w)) (fun k_ => k_ ≠ e0 ∧ k_ ≠ c3 ∧ k_ ≠ c5 ∧ k_ ≠ c6 ∧ k_ ≠ c7 ∧ k_ ≠ c8 ∧ k_ ≠ c9 ∧ k_ ≠ b4) K1 b1))
    (a2 : Aside0 ((World.heap wc)[e0]? = some (Obj.cells #[Value.int IntKind.i64 d2, Value.int IntKind.i64 d3, Value.int IntKind.i64 d4] 25)))
    (a3 : Aside0 ((World.heap wc)[c3]? = some (Obj.cells #[Value.int IntKind.i64 e5, Value.int IntKind.i64 e6, Value.int IntKind.i64 e7] 25)))
    (a4 : Aside0 ((World.heap wc)[c5]? = some (Obj.cells #[Value.int IntKind.i64 m6, Value.int IntKind.i64 m7, Value.int IntKind.i64 m8] 25)))
    (a5 : Aside0 ((World.heap wc)[c6]? = some (Obj.cells #[Value.int IntKind.i64 d7, Value.int IntKind.i64 d8, Value.int IntKind.i64 d9] 25)))
    (a6 : Aside0 ((World.heap wc)[c7]? = some (Obj.cells #[Value.int IntKind.i64 i6, Value.int IntKind.i64 i7, Value.int IntKind.i64 i9] 25)))
    (a8 : Aside0 ((World.heap wc)[c8]? = some (Obj.cells #[Value.int IntKind.i64 m9, Value.int IntKind.i64 n0, Value.int IntKind.i64 n1] 25)))
    (a9 : Aside0 ((World.heap wc)[c9]? = some (Obj.cells #[Value.int IntKind.i64 j0, Value.int IntKind.i64 j1, Value.int IntKind.i64 j2] 25)))
    (b0 : Aside0 ((World.heap wc)[b4]? = some (Obj.cells #[Value.int IntKind.i64 e8, Value.int IntKind.i64 e9, Value.int IntKind.i64 g0] 25)))
    (HB : Aside0 (Below (Array.size (World.heap w)) w wc)),
    ∀ K : Act → World → Prop, (∀ a w', Code.wp Tryz.prog laws_FnLaddersWhole.restCode2 (bodyPost Tryz.prog Tryz.f3 fun e w' => e = .returned (.bool r) ∧ Below w.heap.size w w') a w' → K a w') →
    Code.wp Tryz.prog laws_FnLaddersWhole.testCode2 (Exit.then K (bodyPost Tryz.prog Tryz.f3 fun e w' => e = .returned (.bool r) ∧ Below w.heap.size w w'))
    {
      tmps :=
        #[u0, Value.slice A1 (List.length l1) c1, undef, undef, u4, Value.pointer (some { block := e0, off := 0 }),
          Value.int IntKind.i64 v9, Value.int IntKind.i64 x0, Value.bool uz0, Value.int IntKind.i64 a86,
          Value.int IntKind.i64 a87, Value.bool a88, Value.int IntKind.i64 uz1, Value.int IntKind.i64 uz2,
          Value.bool x2, Value.int IntKind.i64 a89, Value.int IntKind.i64 a90, Value.bool a91, Value.bool x3,
          Value.bool M1, Value.bool a92, Value.bool a93, u22, u23, u24, Value.int IntKind.i64 o6, aa2, Value.bool y2,
          bk1, Value.bool a94, Value.int IntKind.i64 y3, Value.bool M2, Value.int IntKind.i64 a95, Value.bool a96,
          Value.int IntKind.i64 o4, K1, Value.bool r8, bk2, Value.bool a97,
          Value.pointer (some { block := c3, off := 0 }), Value.int IntKind.i64 q1, Value.bool q2,
          Value.pointer (some { block := c5, off := 0 }), Value.int IntKind.i64 a98, Value.bool a99,
          Value.pointer (some { block := c6, off := 0 }), Value.int IntKind.i64 o9,
          Value.pointer (some { block := c7, off := 0 }), Value.bool q5, Value.pointer (some { block := c8, off := 0 }),
          Value.bool aa0, Value.string p2, Value.pointer (some { block := c9, off := 0 }), Value.bool q3,
          Value.pointer (some { block := b4, off := 0 }), Value.bool aa1, undef, undef, undef, undef, undef, undef,
          undef, undef, undef, undef, undef, undef, undef, undef, undef, undef, undef, undef, undef, undef, undef,
          undef, undef, undef, undef, undef, undef, Value.slice A0 (List.length l0) c0,
          Value.slice A1 (List.length l1) c1, Value.bool false, Value.slice A0 (List.length l0) c0,
          Value.agg #[Value.int IntKind.i64 d2, Value.int IntKind.i64 d3, Value.int IntKind.i64 d4],
          Value.tuple #[Value.int IntKind.i64 v9, Value.int IntKind.i64 x0, Value.bool uz0],
          Value.agg #[Value.int IntKind.i64 d2, Value.int IntKind.i64 d3, Value.int IntKind.i64 d4],
          Value.tuple #[Value.int IntKind.i64 v9, Value.int IntKind.i64 x0, Value.bool uz0], Value.int IntKind.i64 v9,
          Value.int IntKind.i64 x0, Value.bool uz0,
          Value.tuple #[Value.int IntKind.i64 a86, Value.int IntKind.i64 a87, Value.bool a88],
          Value.agg #[Value.int IntKind.i64 d2, Value.int IntKind.i64 d3, Value.int IntKind.i64 d4],
          Value.tuple #[Value.int IntKind.i64 a86, Value.int IntKind.i64 a87, Value.bool a88],
          Value.int IntKind.i64 a86, Value.int IntKind.i64 a87, Value.bool a88,
          Value.tuple #[Value.int IntKind.i64 uz1, Value.int IntKind.i64 uz2, Value.bool x2],
          Value.agg #[Value.int IntKind.i64 d2, Value.int IntKind.i64 d3, Value.int IntKind.i64 d4],
          Value.tuple #[Value.int IntKind.i64 uz1, Value.int IntKind.i64 uz2, Value.bool x2], Value.int IntKind.i64 uz1,
          Value.int IntKind.i64 uz2, Value.bool x2,
          Value.tuple #[Value.int IntKind.i64 a89, Value.int IntKind.i64 a90, Value.bool a91],
          Value.agg #[Value.int IntKind.i64 d2, Value.int IntKind.i64 d3, Value.int IntKind.i64 d4],
          Value.tuple #[Value.int IntKind.i64 a89, Value.int IntKind.i64 a90, Value.bool a91],
          Value.int IntKind.i64 a89, Value.int IntKind.i64 a90, Value.bool a91,
          Value.tuple #[Value.bool x3, Value.bool M1],
          Value.agg #[Value.int IntKind.i64 d2, Value.int IntKind.i64 d3, Value.int IntKind.i64 d4],
          Value.tuple #[Value.bool x3, Value.bool M1], Value.bool x3, Value.bool M1,
          Value.tuple #[Value.bool a92, Value.bool a93],
          Value.agg #[Value.int IntKind.i64 d2, Value.int IntKind.i64 d3, Value.int IntKind.i64 d4],
          Value.tuple #[Value.bool a92, Value.bool a93], Value.bool a92, Value.bool a93, u122, u123, u124, u125, u126,
          u127, u128, u129, u130, u131, u132, u133, u134, u135, u136, u137, u138, u139, u140, u141, u142, u143, u144,
          u145, u146, u147, u148, u149, u150, u151, u152, u153, u154, u155, u156, u157, u158, u159, u160, u161, u162,
          u163, u164, u165, u166, u167, u168, u169, u170, u171, u172, u173, u174, u175, u176, Value.bool false,
          Value.bool uz0, u179, u180, u181, u182, u183, u184, u185, u186, u187, u188, u189, u190, u191, u192, u193,
          u194, u195, u196, u197, u198, u199, u200, u201, u202, u203, u204, u205, u206, u207, u208, u209, u210, u211,
          u212, u213, u214, u215, u216, u217, u218, u219, u220, u221, u222, u223, u224, u225, u226, u227, u228, u229,
          u230, u231, u232, u233, u234, u235, u236, u237, u238, u239, u240, u241, u242, u243, u244, u245, u246, u247,
          u248, u249, u250, u251, u252, u253, u254, u255, u256, u257, u258, Value.slice A1 (List.length l1) c1,
          Value.int IntKind.i64 o6, Value.tuple #[aa2, Value.bool y2], Value.int IntKind.i64 o6,
          Value.tuple #[aa2, Value.bool y2], aa2, Value.bool y2, Value.tuple #[bk1, Value.bool a94],
          Value.int IntKind.i64 o6, Value.tuple #[bk1, Value.bool a94], bk1, Value.bool a94,
          Value.tuple #[Value.int IntKind.i64 y3, Value.bool M2], Value.int IntKind.i64 o6,
          Value.tuple #[Value.int IntKind.i64 y3, Value.bool M2], Value.int IntKind.i64 y3, Value.bool M2,
          Value.tuple #[Value.int IntKind.i64 a95, Value.bool a96], Value.int IntKind.i64 o6,
          Value.tuple #[Value.int IntKind.i64 a95, Value.bool a96], Value.int IntKind.i64 a95, Value.bool a96,
          Value.slice A1 (List.length l1) c1, Value.int IntKind.i64 o4, Value.tuple #[K1, Value.bool r8],
          Value.int IntKind.i64 o4, Value.tuple #[K1, Value.bool r8], K1, Value.bool r8,
          Value.tuple #[bk2, Value.bool a97], Value.int IntKind.i64 o4, Value.tuple #[bk2, Value.bool a97], bk2,
          Value.bool a97,
          Value.tuple
            #[Value.agg #[Value.int IntKind.i64 e5, Value.int IntKind.i64 e6, Value.int IntKind.i64 e7],
              Value.int IntKind.i64 q1, Value.bool q2],
          Value.int IntKind.i64 o4,
          Value.tuple
            #[Value.agg #[Value.int IntKind.i64 e5, Value.int IntKind.i64 e6, Value.int IntKind.i64 e7],
              Value.int IntKind.i64 q1, Value.bool q2],
          Value.agg #[Value.int IntKind.i64 e5, Value.int IntKind.i64 e6, Value.int IntKind.i64 e7],
          Value.int IntKind.i64 q1, Value.bool q2,
          Value.tuple
            #[Value.agg #[Value.int IntKind.i64 m6, Value.int IntKind.i64 m7, Value.int IntKind.i64 m8],
              Value.int IntKind.i64 a98, Value.bool a99],
          Value.int IntKind.i64 o4,
          Value.tuple
            #[Value.agg #[Value.int IntKind.i64 m6, Value.int IntKind.i64 m7, Value.int IntKind.i64 m8],
              Value.int IntKind.i64 a98, Value.bool a99],
          Value.agg #[Value.int IntKind.i64 m6, Value.int IntKind.i64 m7, Value.int IntKind.i64 m8],
          Value.int IntKind.i64 a98, Value.bool a99,
          Value.tuple
            #[Value.agg #[Value.int IntKind.i64 d7, Value.int IntKind.i64 d8, Value.int IntKind.i64 d9],
              Value.int IntKind.i64 o9],
          Value.slice A1 (List.length l1) c1,
          Value.tuple
            #[Value.agg #[Value.int IntKind.i64 d7, Value.int IntKind.i64 d8, Value.int IntKind.i64 d9],
              Value.int IntKind.i64 o9],
          Value.agg #[Value.int IntKind.i64 d7, Value.int IntKind.i64 d8, Value.int IntKind.i64 d9],
          Value.int IntKind.i64 o9,
          Value.tuple
            #[Value.agg #[Value.int IntKind.i64 i6, Value.int IntKind.i64 i7, Value.int IntKind.i64 i9], Value.bool q5],
          Value.agg #[Value.int IntKind.i64 d7, Value.int IntKind.i64 d8, Value.int IntKind.i64 d9],
          Value.int IntKind.i64 o9,
          Value.tuple
            #[Value.agg #[Value.int IntKind.i64 i6, Value.int IntKind.i64 i7, Value.int IntKind.i64 i9], Value.bool q5],
          Value.agg #[Value.int IntKind.i64 i6, Value.int IntKind.i64 i7, Value.int IntKind.i64 i9], Value.bool q5,
          Value.tuple
            #[Value.agg #[Value.int IntKind.i64 m9, Value.int IntKind.i64 n0, Value.int IntKind.i64 n1],
              Value.bool aa0],
          Value.agg #[Value.int IntKind.i64 d7, Value.int IntKind.i64 d8, Value.int IntKind.i64 d9],
          Value.int IntKind.i64 o9,
          Value.tuple
            #[Value.agg #[Value.int IntKind.i64 m9, Value.int IntKind.i64 n0, Value.int IntKind.i64 n1],
              Value.bool aa0],
          Value.agg #[Value.int IntKind.i64 m9, Value.int IntKind.i64 n0, Value.int IntKind.i64 n1], Value.bool aa0,
          Value.slice A1 (List.length l1) c1, Value.string p2,
          Value.tuple
            #[Value.agg #[Value.int IntKind.i64 j0, Value.int IntKind.i64 j1, Value.int IntKind.i64 j2], Value.bool q3],
          Value.string p2,
          Value.tuple
            #[Value.agg #[Value.int IntKind.i64 j0, Value.int IntKind.i64 j1, Value.int IntKind.i64 j2], Value.bool q3],
          Value.agg #[Value.int IntKind.i64 j0, Value.int IntKind.i64 j1, Value.int IntKind.i64 j2], Value.bool q3,
          Value.tuple
            #[Value.agg #[Value.int IntKind.i64 e8, Value.int IntKind.i64 e9, Value.int IntKind.i64 g0],
              Value.bool aa1],
          Value.string p2,
          Value.tuple
            #[Value.agg #[Value.int IntKind.i64 e8, Value.int IntKind.i64 e9, Value.int IntKind.i64 g0],
              Value.bool aa1],
          Value.agg #[Value.int IntKind.i64 e8, Value.int IntKind.i64 e9, Value.int IntKind.i64 g0], Value.bool aa1,
          u334, u335, u336, u337, u338, u339, u340, u341, u342, u343, u344, u345, u346, u347, u348, u349, u350, u351,
          u352, u353, u354, u355, u356, u357, u358, u359, u360, u361, u362, u363, u364, u365, u366, u367, u368, u369,
          u370, u371, u372, u373, u374, u375, u376, u377, u378, u379, u380, u381, u382, u383, u384, u385, u386, u387,
          u388, u389, u390, u391, u392, u393, u394, u395, u396, u397, u398, u399, u400, u401, u402, u403, u404, u405,
          u406, u407, u408, u409, u410, u411, u412, Value.bool v4, undef, undef, undef, undef, undef, undef, undef,
          undef, undef, undef, undef, undef, undef, undef, undef, undef, undef, undef, undef, undef, undef, undef,
          undef, undef, undef, undef, undef, undef, undef, undef, undef, undef, undef, undef, undef, undef, undef,
          undef, undef, undef, undef, undef, undef, undef, undef, undef, undef, undef, undef, undef, undef, undef,
          undef, undef, undef, undef, undef, undef, undef, undef, undef, undef, undef, undef, undef, undef, undef,
          undef, undef, undef, undef, undef, undef, undef, undef, undef, undef, undef, undef, undef, undef, undef,
          undef, undef, undef, undef, undef, undef, undef, undef, undef, undef, undef, undef, undef, undef, undef,
          undef, undef, undef, undef, undef, undef, undef, undef, undef, undef, undef, undef, undef, undef, undef,
          undef, undef, undef, undef, undef, undef, undef, undef, undef, undef, undef, undef, undef, undef, undef,
          undef, undef, undef, undef, undef, undef, undef, undef, undef, undef, undef, undef, undef, undef, undef,
          undef, undef, undef, undef, undef, undef, undef, undef, undef, undef, undef, undef, undef, undef, undef,
          undef, undef, undef, undef, undef, undef, undef, undef, undef, undef, undef, undef, undef, undef, undef,
          undef, undef, undef, undef, undef, undef, undef, undef, undef, undef, undef, undef, undef, undef, undef,
          undef, undef, undef, undef, undef, undef, undef, undef, undef, undef, undef, undef, undef, undef, undef,
          undef, undef, undef, undef, undef, undef, undef, undef, undef, undef, undef, undef, undef, undef, undef,
          undef, undef, undef, undef, undef, undef, undef, undef, undef, undef, undef, undef, undef, undef, undef,
          undef],
      defers := [] }
    wc
/-- The code behind cut 3. -/
noncomputable def laws_FnLaddersWhole.restCode3 : Code := (cr (cr (cr (cr (cr (cr (cr (cr (cr (cr (cr (cr (cr (cr (cr (cr (cr (cr (cr (cr (cr (cr (cr (cr (cr (cr (cr (cr (cr (Tryz.f3.body.getD .skip))))))))))))))))))))))))))))))
/-- What it answers. -/
def laws_FnLaddersWhole.RestSaid3 : Prop := ∀ (k : Nat) (A0 : Option Addr) (c0 : Nat) (l0 : List Int) (A1 : Option Addr) (c1 : Nat) (l1 : List Int) (r : Bool) (w : World) (d2 d3 d4 : Int) (v9 x0 : Int) (uz0 : Bool) (a86 a87 : Int) (a88 : Bool) (uz1 uz2 : Int) (x2 : Bool) (a89 a90 : Int) (a91 : Bool) (x3 M1 : Bool) (a92 a93 : Bool) (e0 : Nat) (u122 u123 u124 u125 u126 u127 u128 u129 u130 u131 u132 u133 u134 u135 u136 u137 u138 u139 u140 u141 u142 u143 u144 u145 u146 u147 u148 u149 u150 u151 u152 u153 u154 u155 u156 u157 u158 u159 u160 u161 u162 u163 u164 u165 u166 u167 u168 u169 u170 u171 u172 u173 u174 u175 u176 : Value) (x5 : Nat) (u22 u23 u24 u179 u180 u181 u182 u183 u184 u185 u186 u187 u188 u189 u190 u191 u192 u193 u194 u195 u196 u197 u198 u199 u200 u201 u202 u203 u204 u205 u206 u207 u208 u209 u210 u211 u212 u213 u214 u215 u216 u217 u218 u219 u220 u221 u222 u223 u224 u225 u226 u227 u228 u229 u230 u231 u232 u233 u234 u235 u236 u237 u238 u239 u240 u241 u242 u243 u244 u245 u246 u247 u248 u249 u250 u251 u252 u253 u254 u255 u256 u257 u258 : Value) (d1 : Nat) (o6 : Int) (c2 : List (List Int)) (y2 : Bool) (o7 : List (List Int)) (a94 : Bool) (y3 : Int) (M2 : Bool) (a95 : Int) (a96 : Bool) (o4 : Int) (b1 : List S25) (r8 : Bool) (o8 : List S25) (a97 : Bool) (e5 e6 e7 q1 : Int) (q2 : Bool) (m6 m7 m8 a98 : Int) (a99 : Bool) (d7 d8 d9 o9 : Int) (i6 i7 i9 : Int) (q5 : Bool) (m9 n0 n1 : Int) (aa0 : Bool) (p2 : ByteArray) (j0 j1 j2 : Int) (q3 : Bool) (e8 e9 g0 : Int) (aa1 : Bool) (aa2 : Value) (bk1 : Value) (K1 : Value) (bk2 : Value) (c3 : Nat) (c5 : Nat) (c6 : Nat) (c7 : Nat) (c8 : Nat) (c9 : Nat) (b4 : Nat) (u334 u335 u336 u337 u338 u339 u340 u341 u342 u343 u344 u345 u346 u347 u348 u349 u350 u351 u352 u353 u354 u355 u356 u357 u358 u359 u360 u361 u362 u363 u364 u365 u366 u367 u368 u369 u370 u371 u372 u373 u374 u375 u376 u377 u378 u379 u380 u381 u382 u383 u384 u385 u386 u387 u388 u389 u390 u391 u392 u393 u394 u395 u396 u397 u398 u399 u400 u401 u402 u403 u404 u405 u406 u407 u408 u409 u410 u411 u412 : Value) (b75 : Nat) (wc : World) (u0 u4 u56 u57 u415 u416 u417 u418 u419 u420 u421 u422 u423 u424 u425 u426 u427 u428 u429 u430 u431 u432 u433 u434 u435 u436 u437 u438 u439 u440 u441 u442 u443 u444 u445 u446 u447 u448 u449 u450 u451 u452 u453 u454 u455 u456 u457 u458 u459 u460 u461 u462 u463 u464 u465 u466 u467 u468 u469 u470 u471 u472 u473 u474 u475 u476 u477 u478 u479 u480 u481 u482 u483 u484 u485 : Value) (kq : Nat)
    (HM : Aside0 (PtW w))
    (E4 : Aside0 (Kd.C (Kd.int IntKind.u8) w A0 (List.length l0) l0))
    (E5 : Aside0 (List.length l0 ≤ c0))
    (p7 : Aside0 (Kd.C (Kd.int IntKind.u8) w A1 (List.length l1) l1))
    (p8 : Aside0 (List.length l1 ≤ c1))
    (HT_l : Aside0 (r = true))
    (A3 : Aside0 (laws_big.f l0 l1 = some false))
    (A5 : Aside0 (spec_DrawSquaresOf.f l0 = some (d2, d3, d4)))
    (A6 : Aside0 (impl_SquaresOf.f d2 d3 d4 = some (v9, x0, uz0)))
    (A7 : Aside0 (spec_SquaresOf.f d2 d3 d4 = some (a86, a87, a88)))
    (A8 : Aside0 (impl_LengthsOf.f k d2 d3 d4 = some (uz1, uz2, x2)))
    (A9 : Aside0 (spec_LengthsOf.f k d2 d3 d4 = some (a89, a90, a91)))
    (A10 : Aside0 (impl_IsWholeCrossing.f k d2 d3 d4 = some (x3, M1)))
    (A11 : Aside0 (spec_IsWholeCrossing.f k d2 d3 d4 = some (a92, a93)))
    (b94 b95 : Aside0 (Array.size (World.heap w) ≤ e0))
    (HJ11 : Aside0 (x5 + 1 ≤ k))
    (HJ43 : Aside0 (d1 + 1 ≤ x5))
    (A66 : Aside0 (spec_DrawPairsFor.f l1 = some o6))
    (A67 : Aside0 (impl_PairsFor.f d1 o6 = some (c2, y2)))
    (A68 : Aside0 (spec_PairsFor.f d1 o6 = some (o7, a94)))
    (A69 : Aside0 (impl_CountPairs.f d1 o6 = some (y3, M2)))
    (A70 : Aside0 (spec_CountPairs.f d1 o6 = some (a95, a96)))
    (A71 : Aside0 (spec_DrawWholeCrossings.f l1 = some o4))
    (A72 : Aside0 (impl_WholeCrossings.f d1 o4 = some (b1, r8)))
    (A73 : Aside0 (spec_WholeCrossings.f d1 o4 = some (o8, a97)))
    (A74 : Aside0 (impl_LowestWhole.f d1 o4 = some (e5, e6, e7, q1, q2)))
    (A75 : Aside0 (spec_LowestWhole.f d1 o4 = some (m6, m7, m8, a98, a99)))
    (A76 : Aside0 (spec_DrawTimesLadders.f l1 = some (d7, d8, d9, o9)))
    (A77 : Aside0 (impl_TimesLadders.f d1 d7 d8 d9 o9 = some (i6, i7, i9, q5)))
    (A78 : Aside0 (spec_TimesLadders.f d1 d7 d8 d9 o9 = some (m9, n0, n1, aa0)))
    (A79 : Aside0 (spec_DrawParseLadders.f d1 l1 = some p2))
    (A80 : Aside0 (impl_ParseLadders.f d1 p2 = some (j0, j1, j2, q3)))
    (A81 : Aside0 (spec_ParseLadders.f d1 p2 = some (e8, e9, g0, aa1)))
    (bc4 bc5 : Aside0 (Array.size (World.heap w) ≤ c3))
    (g1 : Aside0 (e0 ≠ c3))
    (g2 : Aside0 (c3 ≠ e0))
    (bc8 bc9 : Aside0 (Array.size (World.heap w) ≤ c5))
    (n2 : Aside0 (e0 ≠ c5))
    (n3 : Aside0 (c5 ≠ e0))
    (g3 : Aside0 (c3 ≠ c5))
    (g4 : Aside0 (c5 ≠ c3))
    (bd4 bd5 : Aside0 (Array.size (World.heap w) ≤ c6))
    (p4 : Aside0 (e0 ≠ c6))
    (p5 : Aside0 (c6 ≠ e0))
    (e1 : Aside0 (c3 ≠ c6))
    (e2 : Aside0 (c6 ≠ c3))
    (k8 : Aside0 (c5 ≠ c6))
    (k9 : Aside0 (c6 ≠ c5))
    (bd6 bd7 : Aside0 (Array.size (World.heap w) ≤ c7))
    (j5 : Aside0 (e0 ≠ c7))
    (j6 : Aside0 (c7 ≠ e0))
    (d5 : Aside0 (c3 ≠ c7))
    (d6 : Aside0 (c7 ≠ c3))
    (j7 : Aside0 (c5 ≠ c7))
    (j8 : Aside0 (c7 ≠ c5))
    (l2 : Aside0 (c6 ≠ c7))
    (l3 : Aside0 (c7 ≠ c6))
    (bd8 bd9 : Aside0 (Array.size (World.heap w) ≤ c8))
    (n4 : Aside0 (e0 ≠ c8))
    (n5 : Aside0 (c8 ≠ e0))
    (g5 : Aside0 (c3 ≠ c8))
    (g6 : Aside0 (c8 ≠ c3))
    (n6 : Aside0 (c5 ≠ c8))
    (n7 : Aside0 (c8 ≠ c5))
    (l4 : Aside0 (c6 ≠ c8))
    (l5 : Aside0 (c8 ≠ c6))
    (j9 : Aside0 (c7 ≠ c8))
    (k0 : Aside0 (c8 ≠ c7))
    (be0 be1 : Aside0 (Array.size (World.heap w) ≤ c9))
    (l6 : Aside0 (e0 ≠ c9))
    (l7 : Aside0 (c9 ≠ e0))
    (e3 : Aside0 (c3 ≠ c9))
    (e4 : Aside0 (c9 ≠ c3))
    (l8 : Aside0 (c5 ≠ c9))
    (l9 : Aside0 (c9 ≠ c5))
    (k4 : Aside0 (c6 ≠ c9))
    (k6 : Aside0 (c9 ≠ c6))
    (j3 : Aside0 (c7 ≠ c9))
    (j4 : Aside0 (c9 ≠ c7))
    (m0 : Aside0 (c8 ≠ c9))
    (m1 : Aside0 (c9 ≠ c8))
    (be2 be3 : Aside0 (Array.size (World.heap w) ≤ b4))
    (n8 : Aside0 (e0 ≠ b4))
    (n9 : Aside0 (b4 ≠ e0))
    (g7 : Aside0 (c3 ≠ b4))
    (g8 : Aside0 (b4 ≠ c3))
    (o0 : Aside0 (c5 ≠ b4))
    (o1 : Aside0 (b4 ≠ c5))
    (m2 : Aside0 (c6 ≠ b4))
    (m3 : Aside0 (b4 ≠ c6))
    (k1 : Aside0 (c7 ≠ b4))
    (k2 : Aside0 (b4 ≠ c7))
    (o2 : Aside0 (c8 ≠ b4))
    (o3 : Aside0 (b4 ≠ c8))
    (m4 : Aside0 (c9 ≠ b4))
    (m5 : Aside0 (b4 ≠ c9))
    (HJ81 : Aside0 (b75 + 1 ≤ d1))
    (HA : Aside0 (laws_FnLaddersWhole.j5 kq o4 b1 r8 q1 q2 o9 q5 p2 q3 e5 e6 e7 d7 d8 d9 i6 i7 i9 j0 j1 j2 = some r))
    (HJ233 : Aside0 (kq ≤ b75))
    (p6 : Aside0 (Kd.R k25 25 wc (Array.size (World.heap w)) (fun k_ => k_ ≠ e0 ∧ k_ ≠ c3 ∧ k_ ≠ c5 ∧ k_ ≠ c6 ∧ k_ ≠ c7 ∧ k_ ≠ c8 ∧ k_ ≠ c9 ∧ k_ ≠ b4) K1 b1))
    (a2 : Aside0 ((World.heap wc)[e0]? = some (Obj.cells #[Value.int IntKind.i64 d2, Value.int IntKind.i64 d3, Value.int IntKind.i64 d4] 25)))
    (a3 : Aside0 ((World.heap wc)[c3]? = some (Obj.cells #[Value.int IntKind.i64 e5, Value.int IntKind.i64 e6, Value.int IntKind.i64 e7] 25)))
    (a4 : Aside0 ((World.heap wc)[c5]? = some (Obj.cells #[Value.int IntKind.i64 m6, Value.int IntKind.i64 m7, Value.int IntKind.i64 m8] 25)))
    (a5 : Aside0 ((World.heap wc)[c6]? = some (Obj.cells #[Value.int IntKind.i64 d7, Value.int IntKind.i64 d8, Value.int IntKind.i64 d9] 25)))
    (a6 : Aside0 ((World.heap wc)[c7]? = some (Obj.cells #[Value.int IntKind.i64 i6, Value.int IntKind.i64 i7, Value.int IntKind.i64 i9] 25)))
    (a8 : Aside0 ((World.heap wc)[c8]? = some (Obj.cells #[Value.int IntKind.i64 m9, Value.int IntKind.i64 n0, Value.int IntKind.i64 n1] 25)))
    (a9 : Aside0 ((World.heap wc)[c9]? = some (Obj.cells #[Value.int IntKind.i64 j0, Value.int IntKind.i64 j1, Value.int IntKind.i64 j2] 25)))
    (b0 : Aside0 ((World.heap wc)[b4]? = some (Obj.cells #[Value.int IntKind.i64 e8, Value.int IntKind.i64 e9, Value.int IntKind.i64 g0] 25)))
    (HB : Aside0 (Below (Array.size (World.heap w)) w wc)),
    Code.wp Tryz.prog laws_FnLaddersWhole.restCode3 (bodyPost Tryz.prog Tryz.f3 fun e w' => e = .returned (.bool r) ∧ Below w.heap.size w w')
    {
      tmps :=
        #[u0, Value.slice A1 (List.length l1) c1, undef, undef, u4, Value.pointer (some { block := e0, off := 0 }),
          Value.int IntKind.i64 v9, Value.int IntKind.i64 x0, Value.bool uz0, Value.int IntKind.i64 a86,
          Value.int IntKind.i64 a87, Value.bool a88, Value.int IntKind.i64 uz1, Value.int IntKind.i64 uz2,
          Value.bool x2, Value.int IntKind.i64 a89, Value.int IntKind.i64 a90, Value.bool a91, Value.bool x3,
          Value.bool M1, Value.bool a92, Value.bool a93, u22, u23, u24, Value.int IntKind.i64 o6, aa2, Value.bool y2,
          bk1, Value.bool a94, Value.int IntKind.i64 y3, Value.bool M2, Value.int IntKind.i64 a95, Value.bool a96,
          Value.int IntKind.i64 o4, K1, Value.bool r8, bk2, Value.bool a97,
          Value.pointer (some { block := c3, off := 0 }), Value.int IntKind.i64 q1, Value.bool q2,
          Value.pointer (some { block := c5, off := 0 }), Value.int IntKind.i64 a98, Value.bool a99,
          Value.pointer (some { block := c6, off := 0 }), Value.int IntKind.i64 o9,
          Value.pointer (some { block := c7, off := 0 }), Value.bool q5, Value.pointer (some { block := c8, off := 0 }),
          Value.bool aa0, Value.string p2, Value.pointer (some { block := c9, off := 0 }), Value.bool q3,
          Value.pointer (some { block := b4, off := 0 }), Value.bool aa1, u56, u57, undef, undef, undef, undef, undef,
          undef, undef, undef, undef, undef, undef, undef, undef, undef, undef, undef, undef, undef, undef, undef,
          undef, undef, undef, undef, undef, Value.slice A0 (List.length l0) c0, Value.slice A1 (List.length l1) c1,
          Value.bool false, Value.slice A0 (List.length l0) c0,
          Value.agg #[Value.int IntKind.i64 d2, Value.int IntKind.i64 d3, Value.int IntKind.i64 d4],
          Value.tuple #[Value.int IntKind.i64 v9, Value.int IntKind.i64 x0, Value.bool uz0],
          Value.agg #[Value.int IntKind.i64 d2, Value.int IntKind.i64 d3, Value.int IntKind.i64 d4],
          Value.tuple #[Value.int IntKind.i64 v9, Value.int IntKind.i64 x0, Value.bool uz0], Value.int IntKind.i64 v9,
          Value.int IntKind.i64 x0, Value.bool uz0,
          Value.tuple #[Value.int IntKind.i64 a86, Value.int IntKind.i64 a87, Value.bool a88],
          Value.agg #[Value.int IntKind.i64 d2, Value.int IntKind.i64 d3, Value.int IntKind.i64 d4],
          Value.tuple #[Value.int IntKind.i64 a86, Value.int IntKind.i64 a87, Value.bool a88],
          Value.int IntKind.i64 a86, Value.int IntKind.i64 a87, Value.bool a88,
          Value.tuple #[Value.int IntKind.i64 uz1, Value.int IntKind.i64 uz2, Value.bool x2],
          Value.agg #[Value.int IntKind.i64 d2, Value.int IntKind.i64 d3, Value.int IntKind.i64 d4],
          Value.tuple #[Value.int IntKind.i64 uz1, Value.int IntKind.i64 uz2, Value.bool x2], Value.int IntKind.i64 uz1,
          Value.int IntKind.i64 uz2, Value.bool x2,
          Value.tuple #[Value.int IntKind.i64 a89, Value.int IntKind.i64 a90, Value.bool a91],
          Value.agg #[Value.int IntKind.i64 d2, Value.int IntKind.i64 d3, Value.int IntKind.i64 d4],
          Value.tuple #[Value.int IntKind.i64 a89, Value.int IntKind.i64 a90, Value.bool a91],
          Value.int IntKind.i64 a89, Value.int IntKind.i64 a90, Value.bool a91,
          Value.tuple #[Value.bool x3, Value.bool M1],
          Value.agg #[Value.int IntKind.i64 d2, Value.int IntKind.i64 d3, Value.int IntKind.i64 d4],
          Value.tuple #[Value.bool x3, Value.bool M1], Value.bool x3, Value.bool M1,
          Value.tuple #[Value.bool a92, Value.bool a93],
          Value.agg #[Value.int IntKind.i64 d2, Value.int IntKind.i64 d3, Value.int IntKind.i64 d4],
          Value.tuple #[Value.bool a92, Value.bool a93], Value.bool a92, Value.bool a93, u122, u123, u124, u125, u126,
          u127, u128, u129, u130, u131, u132, u133, u134, u135, u136, u137, u138, u139, u140, u141, u142, u143, u144,
          u145, u146, u147, u148, u149, u150, u151, u152, u153, u154, u155, u156, u157, u158, u159, u160, u161, u162,
          u163, u164, u165, u166, u167, u168, u169, u170, u171, u172, u173, u174, u175, u176, Value.bool false,
          Value.bool uz0, u179, u180, u181, u182, u183, u184, u185, u186, u187, u188, u189, u190, u191, u192, u193,
          u194, u195, u196, u197, u198, u199, u200, u201, u202, u203, u204, u205, u206, u207, u208, u209, u210, u211,
          u212, u213, u214, u215, u216, u217, u218, u219, u220, u221, u222, u223, u224, u225, u226, u227, u228, u229,
          u230, u231, u232, u233, u234, u235, u236, u237, u238, u239, u240, u241, u242, u243, u244, u245, u246, u247,
          u248, u249, u250, u251, u252, u253, u254, u255, u256, u257, u258, Value.slice A1 (List.length l1) c1,
          Value.int IntKind.i64 o6, Value.tuple #[aa2, Value.bool y2], Value.int IntKind.i64 o6,
          Value.tuple #[aa2, Value.bool y2], aa2, Value.bool y2, Value.tuple #[bk1, Value.bool a94],
          Value.int IntKind.i64 o6, Value.tuple #[bk1, Value.bool a94], bk1, Value.bool a94,
          Value.tuple #[Value.int IntKind.i64 y3, Value.bool M2], Value.int IntKind.i64 o6,
          Value.tuple #[Value.int IntKind.i64 y3, Value.bool M2], Value.int IntKind.i64 y3, Value.bool M2,
          Value.tuple #[Value.int IntKind.i64 a95, Value.bool a96], Value.int IntKind.i64 o6,
          Value.tuple #[Value.int IntKind.i64 a95, Value.bool a96], Value.int IntKind.i64 a95, Value.bool a96,
          Value.slice A1 (List.length l1) c1, Value.int IntKind.i64 o4, Value.tuple #[K1, Value.bool r8],
          Value.int IntKind.i64 o4, Value.tuple #[K1, Value.bool r8], K1, Value.bool r8,
          Value.tuple #[bk2, Value.bool a97], Value.int IntKind.i64 o4, Value.tuple #[bk2, Value.bool a97], bk2,
          Value.bool a97,
          Value.tuple
            #[Value.agg #[Value.int IntKind.i64 e5, Value.int IntKind.i64 e6, Value.int IntKind.i64 e7],
              Value.int IntKind.i64 q1, Value.bool q2],
          Value.int IntKind.i64 o4,
          Value.tuple
            #[Value.agg #[Value.int IntKind.i64 e5, Value.int IntKind.i64 e6, Value.int IntKind.i64 e7],
              Value.int IntKind.i64 q1, Value.bool q2],
          Value.agg #[Value.int IntKind.i64 e5, Value.int IntKind.i64 e6, Value.int IntKind.i64 e7],
          Value.int IntKind.i64 q1, Value.bool q2,
          Value.tuple
            #[Value.agg #[Value.int IntKind.i64 m6, Value.int IntKind.i64 m7, Value.int IntKind.i64 m8],
              Value.int IntKind.i64 a98, Value.bool a99],
          Value.int IntKind.i64 o4,
          Value.tuple
            #[Value.agg #[Value.int IntKind.i64 m6, Value.int IntKind.i64 m7, Value.int IntKind.i64 m8],
              Value.int IntKind.i64 a98, Value.bool a99],
          Value.agg #[Value.int IntKind.i64 m6, Value.int IntKind.i64 m7, Value.int IntKind.i64 m8],
          Value.int IntKind.i64 a98, Value.bool a99,
          Value.tuple
            #[Value.agg #[Value.int IntKind.i64 d7, Value.int IntKind.i64 d8, Value.int IntKind.i64 d9],
              Value.int IntKind.i64 o9],
          Value.slice A1 (List.length l1) c1,
          Value.tuple
            #[Value.agg #[Value.int IntKind.i64 d7, Value.int IntKind.i64 d8, Value.int IntKind.i64 d9],
              Value.int IntKind.i64 o9],
          Value.agg #[Value.int IntKind.i64 d7, Value.int IntKind.i64 d8, Value.int IntKind.i64 d9],
          Value.int IntKind.i64 o9,
          Value.tuple
            #[Value.agg #[Value.int IntKind.i64 i6, Value.int IntKind.i64 i7, Value.int IntKind.i64 i9], Value.bool q5],
          Value.agg #[Value.int IntKind.i64 d7, Value.int IntKind.i64 d8, Value.int IntKind.i64 d9],
          Value.int IntKind.i64 o9,
          Value.tuple
            #[Value.agg #[Value.int IntKind.i64 i6, Value.int IntKind.i64 i7, Value.int IntKind.i64 i9], Value.bool q5],
          Value.agg #[Value.int IntKind.i64 i6, Value.int IntKind.i64 i7, Value.int IntKind.i64 i9], Value.bool q5,
          Value.tuple
            #[Value.agg #[Value.int IntKind.i64 m9, Value.int IntKind.i64 n0, Value.int IntKind.i64 n1],
              Value.bool aa0],
          Value.agg #[Value.int IntKind.i64 d7, Value.int IntKind.i64 d8, Value.int IntKind.i64 d9],
          Value.int IntKind.i64 o9,
          Value.tuple
            #[Value.agg #[Value.int IntKind.i64 m9, Value.int IntKind.i64 n0, Value.int IntKind.i64 n1],
              Value.bool aa0],
          Value.agg #[Value.int IntKind.i64 m9, Value.int IntKind.i64 n0, Value.int IntKind.i64 n1], Value.bool aa0,
          Value.slice A1 (List.length l1) c1, Value.string p2,
          Value.tuple
            #[Value.agg #[Value.int IntKind.i64 j0, Value.int IntKind.i64 j1, Value.int IntKind.i64 j2], Value.bool q3],
          Value.string p2,
          Value.tuple
            #[Value.agg #[Value.int IntKind.i64 j0, Value.int IntKind.i64 j1, Value.int IntKind.i64 j2], Value.bool q3],
          Value.agg #[Value.int IntKind.i64 j0, Value.int IntKind.i64 j1, Value.int IntKind.i64 j2], Value.bool q3,
          Value.tuple
            #[Value.agg #[Value.int IntKind.i64 e8, Value.int IntKind.i64 e9, Value.int IntKind.i64 g0],
              Value.bool aa1],
          Value.string p2,
          Value.tuple
            #[Value.agg #[Value.int IntKind.i64 e8, Value.int IntKind.i64 e9, Value.int IntKind.i64 g0],
              Value.bool aa1],
          Value.agg #[Value.int IntKind.i64 e8, Value.int IntKind.i64 e9, Value.int IntKind.i64 g0], Value.bool aa1,
          u334, u335, u336, u337, u338, u339, u340, u341, u342, u343, u344, u345, u346, u347, u348, u349, u350, u351,
          u352, u353, u354, u355, u356, u357, u358, u359, u360, u361, u362, u363, u364, u365, u366, u367, u368, u369,
          u370, u371, u372, u373, u374, u375, u376, u377, u378, u379, u380, u381, u382, u383, u384, u385, u386, u387,
          u388, u389, u390, u391, u392, u393, u394, u395, u396, u397, u398, u399, u400, u401, u402, u403, u404, u405,
          u406, u407, u408, u409, u410, u411, u412, Value.bool false, Value.bool y2, u415, u416, u417, u418, u419, u420,
          u421, u422, u423, u424, u425, u426, u427, u428, u429, u430, u431, u432, u433, u434, u435, u436, u437, u438,
          u439, u440, u441, u442, u443, u444, u445, u446, u447, u448, u449, u450, u451, u452, u453, u454, u455, u456,
          u457, u458, u459, u460, u461, u462, u463, u464, u465, u466, u467, u468, u469, u470, u471, u472, u473, u474,
          u475, u476, u477, u478, u479, u480, u481, u482, u483, u484, u485, undef, undef, undef, undef, undef, undef,
          undef, undef, undef, undef, undef, undef, undef, undef, undef, undef, undef, undef, undef, undef, undef,
          undef, undef, undef, undef, undef, undef, undef, undef, undef, undef, undef, undef, undef, undef, undef,
          undef, undef, undef, undef, undef, undef, undef, undef, undef, undef, undef, undef, undef, undef, undef,
          undef, undef, undef, undef, undef, undef, undef, undef, undef, undef, undef, undef, undef, undef, undef,
          undef, undef, undef, undef, undef, undef, undef, undef, undef, undef, undef, undef, undef, undef, undef,
          undef, undef, undef, undef, undef, undef, undef, undef, undef, undef, undef, undef, undef, undef, undef,
          undef, undef, undef, undef, undef, undef, undef, undef, undef, undef, undef, undef, undef, undef, undef,
          undef, undef, undef, undef, undef, undef, undef, undef, undef, undef, undef, undef, undef, undef, undef,
          undef, undef, undef, undef, undef, undef, undef, undef, undef, undef, undef, undef, undef, undef, undef,
          undef, undef, undef, undef, undef, undef, undef, undef, undef, undef, undef, undef, undef, undef, undef,
          undef, undef, undef, undef, undef],
      defers := [] }
    wc
/-- The code behind cut 4. -/
noncomputable def laws_FnLaddersWhole.restCode4 : Code := (cr (cr (cr (cr (cr (cr (cr (cr (cr (cr (cr (cr (cr (cr (cr (cr (cr (cr (cr (cr (cr (cr (cr (cr (cr (cr (cr (cr (cr (cr (Tryz.f3.body.getD .skip)))))))))))))))))))))))))))))))
/-- What it answers. -/
def laws_FnLaddersWhole.RestSaid4 : Prop := ∀ (k : Nat) (A0 : Option Addr) (c0 : Nat) (l0 : List Int) (A1 : Option Addr) (c1 : Nat) (l1 : List Int) (r : Bool) (w : World) (d2 d3 d4 : Int) (v9 x0 : Int) (uz0 : Bool) (a86 a87 : Int) (a88 : Bool) (uz1 uz2 : Int) (x2 : Bool) (a89 a90 : Int) (a91 : Bool) (x3 M1 : Bool) (a92 a93 : Bool) (e0 : Nat) (u122 u123 u124 u125 u126 u127 u128 u129 u130 u131 u132 u133 u134 u135 u136 u137 u138 u139 u140 u141 u142 u143 u144 u145 u146 u147 u148 u149 u150 u151 u152 u153 u154 u155 u156 u157 u158 u159 u160 u161 u162 u163 u164 u165 u166 u167 u168 u169 u170 u171 u172 u173 u174 u175 u176 : Value) (x5 : Nat) (u22 u23 u24 u179 u180 u181 u182 u183 u184 u185 u186 u187 u188 u189 u190 u191 u192 u193 u194 u195 u196 u197 u198 u199 u200 u201 u202 u203 u204 u205 u206 u207 u208 u209 u210 u211 u212 u213 u214 u215 u216 u217 u218 u219 u220 u221 u222 u223 u224 u225 u226 u227 u228 u229 u230 u231 u232 u233 u234 u235 u236 u237 u238 u239 u240 u241 u242 u243 u244 u245 u246 u247 u248 u249 u250 u251 u252 u253 u254 u255 u256 u257 u258 : Value) (d1 : Nat) (o6 : Int) (c2 : List (List Int)) (y2 : Bool) (o7 : List (List Int)) (a94 : Bool) (y3 : Int) (M2 : Bool) (a95 : Int) (a96 : Bool) (o4 : Int) (b1 : List S25) (r8 : Bool) (o8 : List S25) (a97 : Bool) (e5 e6 e7 q1 : Int) (q2 : Bool) (m6 m7 m8 a98 : Int) (a99 : Bool) (d7 d8 d9 o9 : Int) (i6 i7 i9 : Int) (q5 : Bool) (m9 n0 n1 : Int) (aa0 : Bool) (p2 : ByteArray) (j0 j1 j2 : Int) (q3 : Bool) (e8 e9 g0 : Int) (aa1 : Bool) (aa2 : Value) (bk1 : Value) (K1 : Value) (bk2 : Value) (c3 : Nat) (c5 : Nat) (c6 : Nat) (c7 : Nat) (c8 : Nat) (c9 : Nat) (b4 : Nat) (u334 u335 u336 u337 u338 u339 u340 u341 u342 u343 u344 u345 u346 u347 u348 u349 u350 u351 u352 u353 u354 u355 u356 u357 u358 u359 u360 u361 u362 u363 u364 u365 u366 u367 u368 u369 u370 u371 u372 u373 u374 u375 u376 u377 u378 u379 u380 u381 u382 u383 u384 u385 u386 u387 u388 u389 u390 u391 u392 u393 u394 u395 u396 u397 u398 u399 u400 u401 u402 u403 u404 u405 u406 u407 u408 u409 u410 u411 u412 : Value) (b75 : Nat) (u56 u57 u415 u416 u417 u418 u419 u420 u421 u422 u423 u424 u425 u426 u427 u428 u429 u430 u431 u432 u433 u434 u435 u436 u437 u438 u439 u440 u441 u442 u443 u444 u445 u446 u447 u448 u449 u450 u451 u452 u453 u454 u455 u456 u457 u458 u459 u460 u461 u462 u463 u464 u465 u466 u467 u468 u469 u470 u471 u472 u473 u474 u475 u476 u477 u478 u479 u480 u481 u482 u483 u484 u485 : Value) (ae7 : Nat) (wc : World) (u0 u4 u58 u60 u61 u62 u63 u64 u65 u66 u67 u68 u487 u488 u489 u490 u491 u492 u493 u494 u495 u496 u497 u498 u499 u500 u501 u502 u503 u504 u505 u506 u507 u508 u509 u510 u511 u512 u513 u514 u515 u516 u517 u518 u519 u520 u521 u522 u523 u524 u525 u526 u527 u528 u529 u530 u531 u532 u533 u534 u535 u536 u537 u538 u539 u540 u541 u542 u543 u544 u545 u546 u547 u548 u549 u550 u551 u552 u553 u554 u555 u556 u557 u558 u559 u560 u561 u562 u563 u564 u565 u566 : Value) (kq : Nat)
    (HM : Aside0 (PtW w))
    (E4 : Aside0 (Kd.C (Kd.int IntKind.u8) w A0 (List.length l0) l0))
    (E5 : Aside0 (List.length l0 ≤ c0))
    (p7 : Aside0 (Kd.C (Kd.int IntKind.u8) w A1 (List.length l1) l1))
    (p8 : Aside0 (List.length l1 ≤ c1))
    (HT_l : Aside0 (r = true))
    (A3 : Aside0 (laws_big.f l0 l1 = some false))
    (A5 : Aside0 (spec_DrawSquaresOf.f l0 = some (d2, d3, d4)))
    (A6 : Aside0 (impl_SquaresOf.f d2 d3 d4 = some (v9, x0, uz0)))
    (A7 : Aside0 (spec_SquaresOf.f d2 d3 d4 = some (a86, a87, a88)))
    (A8 : Aside0 (impl_LengthsOf.f k d2 d3 d4 = some (uz1, uz2, x2)))
    (A9 : Aside0 (spec_LengthsOf.f k d2 d3 d4 = some (a89, a90, a91)))
    (A10 : Aside0 (impl_IsWholeCrossing.f k d2 d3 d4 = some (x3, M1)))
    (A11 : Aside0 (spec_IsWholeCrossing.f k d2 d3 d4 = some (a92, a93)))
    (b94 b95 : Aside0 (Array.size (World.heap w) ≤ e0))
    (HJ11 : Aside0 (x5 + 1 ≤ k))
    (HJ43 : Aside0 (d1 + 1 ≤ x5))
    (A66 : Aside0 (spec_DrawPairsFor.f l1 = some o6))
    (A67 : Aside0 (impl_PairsFor.f d1 o6 = some (c2, y2)))
    (A68 : Aside0 (spec_PairsFor.f d1 o6 = some (o7, a94)))
    (A69 : Aside0 (impl_CountPairs.f d1 o6 = some (y3, M2)))
    (A70 : Aside0 (spec_CountPairs.f d1 o6 = some (a95, a96)))
    (A71 : Aside0 (spec_DrawWholeCrossings.f l1 = some o4))
    (A72 : Aside0 (impl_WholeCrossings.f d1 o4 = some (b1, r8)))
    (A73 : Aside0 (spec_WholeCrossings.f d1 o4 = some (o8, a97)))
    (A74 : Aside0 (impl_LowestWhole.f d1 o4 = some (e5, e6, e7, q1, q2)))
    (A75 : Aside0 (spec_LowestWhole.f d1 o4 = some (m6, m7, m8, a98, a99)))
    (A76 : Aside0 (spec_DrawTimesLadders.f l1 = some (d7, d8, d9, o9)))
    (A77 : Aside0 (impl_TimesLadders.f d1 d7 d8 d9 o9 = some (i6, i7, i9, q5)))
    (A78 : Aside0 (spec_TimesLadders.f d1 d7 d8 d9 o9 = some (m9, n0, n1, aa0)))
    (A79 : Aside0 (spec_DrawParseLadders.f d1 l1 = some p2))
    (A80 : Aside0 (impl_ParseLadders.f d1 p2 = some (j0, j1, j2, q3)))
    (A81 : Aside0 (spec_ParseLadders.f d1 p2 = some (e8, e9, g0, aa1)))
    (bc4 bc5 : Aside0 (Array.size (World.heap w) ≤ c3))
    (g1 : Aside0 (e0 ≠ c3))
    (g2 : Aside0 (c3 ≠ e0))
    (bc8 bc9 : Aside0 (Array.size (World.heap w) ≤ c5))
    (n2 : Aside0 (e0 ≠ c5))
    (n3 : Aside0 (c5 ≠ e0))
    (g3 : Aside0 (c3 ≠ c5))
    (g4 : Aside0 (c5 ≠ c3))
    (bd4 bd5 : Aside0 (Array.size (World.heap w) ≤ c6))
    (p4 : Aside0 (e0 ≠ c6))
    (p5 : Aside0 (c6 ≠ e0))
    (e1 : Aside0 (c3 ≠ c6))
    (e2 : Aside0 (c6 ≠ c3))
    (k8 : Aside0 (c5 ≠ c6))
    (k9 : Aside0 (c6 ≠ c5))
    (bd6 bd7 : Aside0 (Array.size (World.heap w) ≤ c7))
    (j5 : Aside0 (e0 ≠ c7))
    (j6 : Aside0 (c7 ≠ e0))
    (d5 : Aside0 (c3 ≠ c7))
    (d6 : Aside0 (c7 ≠ c3))
    (j7 : Aside0 (c5 ≠ c7))
    (j8 : Aside0 (c7 ≠ c5))
    (l2 : Aside0 (c6 ≠ c7))
    (l3 : Aside0 (c7 ≠ c6))
    (bd8 bd9 : Aside0 (Array.size (World.heap w) ≤ c8))
    (n4 : Aside0 (e0 ≠ c8))
    (n5 : Aside0 (c8 ≠ e0))
    (g5 : Aside0 (c3 ≠ c8))
    (g6 : Aside0 (c8 ≠ c3))
    (n6 : Aside0 (c5 ≠ c8))
    (n7 : Aside0 (c8 ≠ c5))
    (l4 : Aside0 (c6 ≠ c8))
    (l5 : Aside0 (c8 ≠ c6))
    (j9 : Aside0 (c7 ≠ c8))
    (k0 : Aside0 (c8 ≠ c7))
    (be0 be1 : Aside0 (Array.size (World.heap w) ≤ c9))
    (l6 : Aside0 (e0 ≠ c9))
    (l7 : Aside0 (c9 ≠ e0))
    (e3 : Aside0 (c3 ≠ c9))
    (e4 : Aside0 (c9 ≠ c3))
    (l8 : Aside0 (c5 ≠ c9))
    (l9 : Aside0 (c9 ≠ c5))
    (k4 : Aside0 (c6 ≠ c9))
    (k6 : Aside0 (c9 ≠ c6))
    (j3 : Aside0 (c7 ≠ c9))
    (j4 : Aside0 (c9 ≠ c7))
    (m0 : Aside0 (c8 ≠ c9))
    (m1 : Aside0 (c9 ≠ c8))
    (be2 be3 : Aside0 (Array.size (World.heap w) ≤ b4))
    (n8 : Aside0 (e0 ≠ b4))
    (n9 : Aside0 (b4 ≠ e0))
    (g7 : Aside0 (c3 ≠ b4))
    (g8 : Aside0 (b4 ≠ c3))
    (o0 : Aside0 (c5 ≠ b4))
    (o1 : Aside0 (b4 ≠ c5))
    (m2 : Aside0 (c6 ≠ b4))
    (m3 : Aside0 (b4 ≠ c6))
    (k1 : Aside0 (c7 ≠ b4))
    (k2 : Aside0 (b4 ≠ c7))
    (o2 : Aside0 (c8 ≠ b4))
    (o3 : Aside0 (b4 ≠ c8))
    (m4 : Aside0 (c9 ≠ b4))
    (m5 : Aside0 (b4 ≠ c9))
    (HJ81 : Aside0 (b75 + 1 ≤ d1))
    (HJ233 : Aside0 (ae7 + 1 ≤ b75))
    (HA : Aside0 (laws_FnLaddersWhole.j7 kq o9 q5 p2 q3 d7 d8 d9 i6 i7 i9 j0 j1 j2 = some r))
    (HJ255 : Aside0 (kq ≤ ae7))
    (a2 : Aside0 ((World.heap wc)[e0]? = some (Obj.cells #[Value.int IntKind.i64 d2, Value.int IntKind.i64 d3, Value.int IntKind.i64 d4] 25)))
    (a3 : Aside0 ((World.heap wc)[c3]? = some (Obj.cells #[Value.int IntKind.i64 e5, Value.int IntKind.i64 e6, Value.int IntKind.i64 e7] 25)))
    (a4 : Aside0 ((World.heap wc)[c5]? = some (Obj.cells #[Value.int IntKind.i64 m6, Value.int IntKind.i64 m7, Value.int IntKind.i64 m8] 25)))
    (a5 : Aside0 ((World.heap wc)[c6]? = some (Obj.cells #[Value.int IntKind.i64 d7, Value.int IntKind.i64 d8, Value.int IntKind.i64 d9] 25)))
    (a6 : Aside0 ((World.heap wc)[c7]? = some (Obj.cells #[Value.int IntKind.i64 i6, Value.int IntKind.i64 i7, Value.int IntKind.i64 i9] 25)))
    (a8 : Aside0 ((World.heap wc)[c8]? = some (Obj.cells #[Value.int IntKind.i64 m9, Value.int IntKind.i64 n0, Value.int IntKind.i64 n1] 25)))
    (a9 : Aside0 ((World.heap wc)[c9]? = some (Obj.cells #[Value.int IntKind.i64 j0, Value.int IntKind.i64 j1, Value.int IntKind.i64 j2] 25)))
    (b0 : Aside0 ((World.heap wc)[b4]? = some (Obj.cells #[Value.int IntKind.i64 e8, Value.int IntKind.i64 e9, Value.int IntKind.i64 g0] 25)))
    (HB : Aside0 (Below (Array.size (World.heap w)) w wc)),
    Code.wp Tryz.prog laws_FnLaddersWhole.restCode4 (bodyPost Tryz.prog Tryz.f3 fun e w' => e = .returned (.bool r) ∧ Below w.heap.size w w')
    {
      tmps :=
        #[u0, Value.slice A1 (List.length l1) c1, undef, undef, u4, Value.pointer (some { block := e0, off := 0 }),
          Value.int IntKind.i64 v9, Value.int IntKind.i64 x0, Value.bool uz0, Value.int IntKind.i64 a86,
          Value.int IntKind.i64 a87, Value.bool a88, Value.int IntKind.i64 uz1, Value.int IntKind.i64 uz2,
          Value.bool x2, Value.int IntKind.i64 a89, Value.int IntKind.i64 a90, Value.bool a91, Value.bool x3,
          Value.bool M1, Value.bool a92, Value.bool a93, u22, u23, u24, Value.int IntKind.i64 o6, aa2, Value.bool y2,
          bk1, Value.bool a94, Value.int IntKind.i64 y3, Value.bool M2, Value.int IntKind.i64 a95, Value.bool a96,
          Value.int IntKind.i64 o4, K1, Value.bool r8, bk2, Value.bool a97,
          Value.pointer (some { block := c3, off := 0 }), Value.int IntKind.i64 q1, Value.bool q2,
          Value.pointer (some { block := c5, off := 0 }), Value.int IntKind.i64 a98, Value.bool a99,
          Value.pointer (some { block := c6, off := 0 }), Value.int IntKind.i64 o9,
          Value.pointer (some { block := c7, off := 0 }), Value.bool q5, Value.pointer (some { block := c8, off := 0 }),
          Value.bool aa0, Value.string p2, Value.pointer (some { block := c9, off := 0 }), Value.bool q3,
          Value.pointer (some { block := b4, off := 0 }), Value.bool aa1, u56, u57, u58, undef, u60, u61, u62, u63, u64,
          u65, u66, u67, u68, undef, undef, undef, undef, undef, undef, undef, undef, undef, undef, undef, undef, undef,
          undef, Value.slice A0 (List.length l0) c0, Value.slice A1 (List.length l1) c1, Value.bool false,
          Value.slice A0 (List.length l0) c0,
          Value.agg #[Value.int IntKind.i64 d2, Value.int IntKind.i64 d3, Value.int IntKind.i64 d4],
          Value.tuple #[Value.int IntKind.i64 v9, Value.int IntKind.i64 x0, Value.bool uz0],
          Value.agg #[Value.int IntKind.i64 d2, Value.int IntKind.i64 d3, Value.int IntKind.i64 d4],
          Value.tuple #[Value.int IntKind.i64 v9, Value.int IntKind.i64 x0, Value.bool uz0], Value.int IntKind.i64 v9,
          Value.int IntKind.i64 x0, Value.bool uz0,
          Value.tuple #[Value.int IntKind.i64 a86, Value.int IntKind.i64 a87, Value.bool a88],
          Value.agg #[Value.int IntKind.i64 d2, Value.int IntKind.i64 d3, Value.int IntKind.i64 d4],
          Value.tuple #[Value.int IntKind.i64 a86, Value.int IntKind.i64 a87, Value.bool a88],
          Value.int IntKind.i64 a86, Value.int IntKind.i64 a87, Value.bool a88,
          Value.tuple #[Value.int IntKind.i64 uz1, Value.int IntKind.i64 uz2, Value.bool x2],
          Value.agg #[Value.int IntKind.i64 d2, Value.int IntKind.i64 d3, Value.int IntKind.i64 d4],
          Value.tuple #[Value.int IntKind.i64 uz1, Value.int IntKind.i64 uz2, Value.bool x2], Value.int IntKind.i64 uz1,
          Value.int IntKind.i64 uz2, Value.bool x2,
          Value.tuple #[Value.int IntKind.i64 a89, Value.int IntKind.i64 a90, Value.bool a91],
          Value.agg #[Value.int IntKind.i64 d2, Value.int IntKind.i64 d3, Value.int IntKind.i64 d4],
          Value.tuple #[Value.int IntKind.i64 a89, Value.int IntKind.i64 a90, Value.bool a91],
          Value.int IntKind.i64 a89, Value.int IntKind.i64 a90, Value.bool a91,
          Value.tuple #[Value.bool x3, Value.bool M1],
          Value.agg #[Value.int IntKind.i64 d2, Value.int IntKind.i64 d3, Value.int IntKind.i64 d4],
          Value.tuple #[Value.bool x3, Value.bool M1], Value.bool x3, Value.bool M1,
          Value.tuple #[Value.bool a92, Value.bool a93],
          Value.agg #[Value.int IntKind.i64 d2, Value.int IntKind.i64 d3, Value.int IntKind.i64 d4],
          Value.tuple #[Value.bool a92, Value.bool a93], Value.bool a92, Value.bool a93, u122, u123, u124, u125, u126,
          u127, u128, u129, u130, u131, u132, u133, u134, u135, u136, u137, u138, u139, u140, u141, u142, u143, u144,
          u145, u146, u147, u148, u149, u150, u151, u152, u153, u154, u155, u156, u157, u158, u159, u160, u161, u162,
          u163, u164, u165, u166, u167, u168, u169, u170, u171, u172, u173, u174, u175, u176, Value.bool false,
          Value.bool uz0, u179, u180, u181, u182, u183, u184, u185, u186, u187, u188, u189, u190, u191, u192, u193,
          u194, u195, u196, u197, u198, u199, u200, u201, u202, u203, u204, u205, u206, u207, u208, u209, u210, u211,
          u212, u213, u214, u215, u216, u217, u218, u219, u220, u221, u222, u223, u224, u225, u226, u227, u228, u229,
          u230, u231, u232, u233, u234, u235, u236, u237, u238, u239, u240, u241, u242, u243, u244, u245, u246, u247,
          u248, u249, u250, u251, u252, u253, u254, u255, u256, u257, u258, Value.slice A1 (List.length l1) c1,
          Value.int IntKind.i64 o6, Value.tuple #[aa2, Value.bool y2], Value.int IntKind.i64 o6,
          Value.tuple #[aa2, Value.bool y2], aa2, Value.bool y2, Value.tuple #[bk1, Value.bool a94],
          Value.int IntKind.i64 o6, Value.tuple #[bk1, Value.bool a94], bk1, Value.bool a94,
          Value.tuple #[Value.int IntKind.i64 y3, Value.bool M2], Value.int IntKind.i64 o6,
          Value.tuple #[Value.int IntKind.i64 y3, Value.bool M2], Value.int IntKind.i64 y3, Value.bool M2,
          Value.tuple #[Value.int IntKind.i64 a95, Value.bool a96], Value.int IntKind.i64 o6,
          Value.tuple #[Value.int IntKind.i64 a95, Value.bool a96], Value.int IntKind.i64 a95, Value.bool a96,
          Value.slice A1 (List.length l1) c1, Value.int IntKind.i64 o4, Value.tuple #[K1, Value.bool r8],
          Value.int IntKind.i64 o4, Value.tuple #[K1, Value.bool r8], K1, Value.bool r8,
          Value.tuple #[bk2, Value.bool a97], Value.int IntKind.i64 o4, Value.tuple #[bk2, Value.bool a97], bk2,
          Value.bool a97,
          Value.tuple
            #[Value.agg #[Value.int IntKind.i64 e5, Value.int IntKind.i64 e6, Value.int IntKind.i64 e7],
              Value.int IntKind.i64 q1, Value.bool q2],
          Value.int IntKind.i64 o4,
          Value.tuple
            #[Value.agg #[Value.int IntKind.i64 e5, Value.int IntKind.i64 e6, Value.int IntKind.i64 e7],
              Value.int IntKind.i64 q1, Value.bool q2],
          Value.agg #[Value.int IntKind.i64 e5, Value.int IntKind.i64 e6, Value.int IntKind.i64 e7],
          Value.int IntKind.i64 q1, Value.bool q2,
          Value.tuple
            #[Value.agg #[Value.int IntKind.i64 m6, Value.int IntKind.i64 m7, Value.int IntKind.i64 m8],
              Value.int IntKind.i64 a98, Value.bool a99],
          Value.int IntKind.i64 o4,
          Value.tuple
            #[Value.agg #[Value.int IntKind.i64 m6, Value.int IntKind.i64 m7, Value.int IntKind.i64 m8],
              Value.int IntKind.i64 a98, Value.bool a99],
          Value.agg #[Value.int IntKind.i64 m6, Value.int IntKind.i64 m7, Value.int IntKind.i64 m8],
          Value.int IntKind.i64 a98, Value.bool a99,
          Value.tuple
            #[Value.agg #[Value.int IntKind.i64 d7, Value.int IntKind.i64 d8, Value.int IntKind.i64 d9],
              Value.int IntKind.i64 o9],
          Value.slice A1 (List.length l1) c1,
          Value.tuple
            #[Value.agg #[Value.int IntKind.i64 d7, Value.int IntKind.i64 d8, Value.int IntKind.i64 d9],
              Value.int IntKind.i64 o9],
          Value.agg #[Value.int IntKind.i64 d7, Value.int IntKind.i64 d8, Value.int IntKind.i64 d9],
          Value.int IntKind.i64 o9,
          Value.tuple
            #[Value.agg #[Value.int IntKind.i64 i6, Value.int IntKind.i64 i7, Value.int IntKind.i64 i9], Value.bool q5],
          Value.agg #[Value.int IntKind.i64 d7, Value.int IntKind.i64 d8, Value.int IntKind.i64 d9],
          Value.int IntKind.i64 o9,
          Value.tuple
            #[Value.agg #[Value.int IntKind.i64 i6, Value.int IntKind.i64 i7, Value.int IntKind.i64 i9], Value.bool q5],
          Value.agg #[Value.int IntKind.i64 i6, Value.int IntKind.i64 i7, Value.int IntKind.i64 i9], Value.bool q5,
          Value.tuple
            #[Value.agg #[Value.int IntKind.i64 m9, Value.int IntKind.i64 n0, Value.int IntKind.i64 n1],
              Value.bool aa0],
          Value.agg #[Value.int IntKind.i64 d7, Value.int IntKind.i64 d8, Value.int IntKind.i64 d9],
          Value.int IntKind.i64 o9,
          Value.tuple
            #[Value.agg #[Value.int IntKind.i64 m9, Value.int IntKind.i64 n0, Value.int IntKind.i64 n1],
              Value.bool aa0],
          Value.agg #[Value.int IntKind.i64 m9, Value.int IntKind.i64 n0, Value.int IntKind.i64 n1], Value.bool aa0,
          Value.slice A1 (List.length l1) c1, Value.string p2,
          Value.tuple
            #[Value.agg #[Value.int IntKind.i64 j0, Value.int IntKind.i64 j1, Value.int IntKind.i64 j2], Value.bool q3],
          Value.string p2,
          Value.tuple
            #[Value.agg #[Value.int IntKind.i64 j0, Value.int IntKind.i64 j1, Value.int IntKind.i64 j2], Value.bool q3],
          Value.agg #[Value.int IntKind.i64 j0, Value.int IntKind.i64 j1, Value.int IntKind.i64 j2], Value.bool q3,
          Value.tuple
            #[Value.agg #[Value.int IntKind.i64 e8, Value.int IntKind.i64 e9, Value.int IntKind.i64 g0],
              Value.bool aa1],
          Value.string p2,
          Value.tuple
            #[Value.agg #[Value.int IntKind.i64 e8, Value.int IntKind.i64 e9, Value.int IntKind.i64 g0],
              Value.bool aa1],
          Value.agg #[Value.int IntKind.i64 e8, Value.int IntKind.i64 e9, Value.int IntKind.i64 g0], Value.bool aa1,
          u334, u335, u336, u337, u338, u339, u340, u341, u342, u343, u344, u345, u346, u347, u348, u349, u350, u351,
          u352, u353, u354, u355, u356, u357, u358, u359, u360, u361, u362, u363, u364, u365, u366, u367, u368, u369,
          u370, u371, u372, u373, u374, u375, u376, u377, u378, u379, u380, u381, u382, u383, u384, u385, u386, u387,
          u388, u389, u390, u391, u392, u393, u394, u395, u396, u397, u398, u399, u400, u401, u402, u403, u404, u405,
          u406, u407, u408, u409, u410, u411, u412, Value.bool false, Value.bool y2, u415, u416, u417, u418, u419, u420,
          u421, u422, u423, u424, u425, u426, u427, u428, u429, u430, u431, u432, u433, u434, u435, u436, u437, u438,
          u439, u440, u441, u442, u443, u444, u445, u446, u447, u448, u449, u450, u451, u452, u453, u454, u455, u456,
          u457, u458, u459, u460, u461, u462, u463, u464, u465, u466, u467, u468, u469, u470, u471, u472, u473, u474,
          u475, u476, u477, u478, u479, u480, u481, u482, u483, u484, u485, Value.bool r8, u487, u488, u489, u490, u491,
          u492, u493, u494, u495, u496, u497, u498, u499, u500, u501, u502, u503, u504, u505, u506, u507, u508, u509,
          u510, u511, u512, u513, u514, u515, u516, u517, u518, u519, u520, u521, u522, u523, u524, u525, u526, u527,
          u528, u529, u530, u531, u532, u533, u534, u535, u536, u537, u538, u539, u540, u541, u542, u543, u544, u545,
          u546, u547, u548, u549, u550, u551, u552, u553, u554, u555, u556, u557, u558, u559, u560, u561, u562, u563,
          u564, u565, u566, undef, undef, undef, undef, undef, undef, undef, undef, undef, undef, undef, undef, undef,
          undef, undef, undef, undef, undef, undef, undef, undef, undef, undef, undef, undef, undef, undef, undef,
          undef, undef, undef, undef, undef, undef, undef, undef, undef, undef, undef, undef, undef, undef, undef,
          undef, undef, undef, undef, undef, undef, undef, undef, undef, undef, undef, undef, undef, undef, undef,
          undef, undef, undef, undef, undef, undef, undef, undef, undef, undef, undef, undef, undef, undef, undef,
          undef, undef, undef, undef, undef, undef, undef],
      defers := [] }
    wc
end Go.Proofs.YtcfknhmdhglmfaaGreatDoor.PFnLaddersWhole
