-- Written by split3.py: the law's walk behind cut 2.
import Derived.Test.YthfbjofmcniogaaVM
import Derived.Test.YthfbjofmcniogaaVF
import Derived.Test.YthfbjofmcniogaaVQ
import Derived.Test.YthfbjofmcniogaaPFnBeamsGoOfAllx0
import Derived.Test.YthfbjofmcniogaaPFnBeamsGoOfAllx1
import Derived.Test.YthfbjofmcniogaaPFnBeamsGoOfAllx6
import Derived.Test.YthfbjofmcniogaaPFnBeamsGoOfAllx9
import Derived.Test.YthfbjofmcniogaaPFnBeamsGoOfAllx10
import Derived.Test.YthfbjofmcniogaaPFnBeamsGoOfAllx11
import Derived.Test.YthfbjofmcniogaaPFnBeamsGoOfAllx12
import Derived.Test.YthfbjofmcniogaaPFnBeamsGoOfAllx13
import Derived.Test.YthfbjofmcniogaaPFnBeamsGoOfAllx14
import Derived.Test.YthfbjofmcniogaaPFnBeamsGoOfAllx15
import Derived.Test.YthfbjofmcniogaaPFnBeamsGoOfAllx16
import Derived.Test.YthfbjofmcniogaaPFnBeamsGoOfAllx17
import Derived.Test.YthfbjofmcniogaaPFnBeamsGoOfAllx18
namespace Go.Proofs.Ythfbjofmcniogaa.PFnBeamsGoOfAll
open Go.Proofs.YthfbjofmcniogaaV Go.RowKit Go.Proofs.YthfbjofmcniogaaW.PrintWords Go.Proofs.YthfbjofmcniogaaW.PrintLast Go.Proofs.YthfbjofmcniogaaW.PrintMore
attribute [local go_sem] max2_int min2_int max_two min_two max_three min_three max_four min_four   -- for this text's walks alone
attribute [local go_sem ↓] rdl_zero rdl_succ eval_lit
set_option linter.unusedVariables false
set_option linter.unusedSimpArgs false
attribute [local go_sem high] eqA30
set_option maxHeartbeats 100000000 in
set_option maxRecDepth 100000 in
theorem laws_FnBeamsGoOfAll.rest2 : laws_FnBeamsGoOfAll.RestSaid2 := by
 intro k a0_0 a0_1 a1_0 a1_1 a1_2 a1_3 a2 a3_0 a3_1 a4_0 a4_1 a4_2 a4_3 a5 a6 a7_0 a7_1 a8_0 a8_1 a8_2 a8_3 a9 r w a0 C9 P1 b50 n7 n8 b53 b54 l3 l9 b57 b58 l4 l7 b61 b62 g5 g6 g7 g8 ae1 h8 h9 i0 i1 b65 e9 h2 k0 k1 h4 k2 D0 b67 g9 e3 u148 u149 u150 u151 u152 u153 u154 u155 u156 u157 u158 u159 u160 u161 u162 u163 u164 u165 u166 u167 u168 u169 u170 u171 u172 u173 u174 u175 u176 u177 u178 u179 u180 u181 u182 u183 u184 u185 u186 u187 u188 u189 u190 u191 u192 u193 u194 u195 u196 u197 u198 u199 u200 u201 u202 u203 u204 u205 u206 u207 u208 u209 u210 u211 u212 u213 u214 u215 u216 u217 u218 u219 u220 u221 u222 u223 u224 u225 u226 u227 u228 u229 u230 u231 u232 u233 u234 u235 u236 u237 u238 u239 u240 u241 u242 u243 u244 u245 u246 u247 u248 u249 u250 u251 u252 u253 u254 b76 wc u20 u41 u42 u43 u44 u45 u46 u47 u48 u49 u50 u51 u52 u256 u257 u258 u259 u260 u261 u262 u263 u264 u265 u266 u267 u268 u269 u270 u271 u272 u273 u274 u275 u276 u277 u278 u279 u280 u281 u282 u283 u284 u285 u286 u287 u288 u289 u290 u291 u292 u293 u294 u295 u296 u297 u298 u299 u300 u301 u302 u303 u304 u305 u306 u307 u308 u309 u310 u311 u312 u313 u314 u315 u316 u317 u318 u319 u320 u321 u322 u323 u324 u325 u326 u327 u328 u329 u330 u331 u332 u333 u334 u335 u336 u337 u338 u339 u340 u341 u342 u343 u344 u345 u346 u347 u348 u349 u350 u351 u352 u353 u354 u355 u356 u357 u358 u359 u360 u361 u362 u363 u364 u365 u366 u367 u368 u369 u370 u371 u372 u373 u374 u375 u376 u377 u378 u379 u380 u381 u382 u383 u384 u385 u386 u387 u388 u389 u390 u391 u392 u393 u394 u395 u396 u397 u398 u399 u400 u401 u402 u403 u404 u405 u406 u407 u408 u409 u410 u411 u412 u413 u414 u415 u416 u417 u418 u419 u420 u421 u422 u423 u424 u425 u426 u427 u428 u429 u430 u431 u432 u433 u434 u435 u436 u437 u438 u439 u440 u441 u442 u443 u444 u445 u446 u447 u448 u449 u450 u451 u452 u453 u454 u455 u456 u457 u458 u459 u460 u461 u462 u463 u464 u465 u466 u467 u468 u469 u470 u471 u472 u473 u474 u475 u476 u477 u478 u479 u480 u481 u482 u483 u484 u485 u486 u487 u488 u489 u490 u491 u492 u493 u494 u495 u496 u497 u498 u499 u500 u501 u502 u503 u504 u505 u506 u507 u508 u509 u510 u511 u512 u513 kq HT_l A11 A12 A13 A14 A15 A16 A17 A18 A19 A20 gq9 gr0 gr1 gr2 d6 d7 gr3 gr4 d1 d2 o1 o2 gr5 gr6 d3 d4 o3 o4 G8 G9 gr7 gr8 c2 c3 h6 h7 k3 k4 k6 k7 gr9 gs0 c6 c7 m0 m1 s4 s5 s6 s7 l5 l6 gt9 gu0 d9 e0 s8 s9 u0 u1 u2 u3 j1 j2 q0 q1 gv3 gv4 e1 e2 u4 u5 z1 z2 z3 z4 k8 k9 u6 u7 I0 I1 HJ20 HA HJ152 a1 a4 a7 b0 a8 b1 b2 b3 HB
 conv => enter [2]; whnf
 have h41 := Try.underlying28
 have h42 := Try.underlying30
 cases kq with
 | zero => exact absurd HA.out (by simp [laws_FnBeamsGoOfAll.j10])
 | succ bj4 => (
 as_aux_lemma => (
 have H := HA.out
 clear HA
 simp only [laws_FnBeamsGoOfAll.j10] at H
 have a04 := Aside0.mk H
 clear H
 repeat (go_not_at_if 514; first | go_skip | go_guarded | go_step | go_upon)
 go_cut [514] from 514 to 514 (fun h60 wc => ∃ (kq : Nat), Aside0 (laws_FnBeamsGoOfAll.j11 kq a5 a6 a9 l3 l9 l4 a0_0 a0_1 a1_0 a1_1 a1_2 a1_3 a3_0 a3_1 a4_0 a4_1 a4_2 a4_3 a7_0 a7_1 a8_0 a8_1 a8_2 a8_3 = some r) ∧ Aside0 (kq ≤ bj4) ∧ Aside0 (wc.heap[e9]? = some (.cells #[.int .i64 a0_0, .int .i64 a0_1] 28 (0, 0))) ∧ Aside0 (wc.heap[h2]? = some (.cells #[.int .i64 a1_0, .int .i64 a1_1, .bool a1_2, .bool a1_3] 30 (0, 0))) ∧ Aside0 (wc.heap[k0]? = some (.cells #[.int .i64 a3_0, .int .i64 a3_1] 28 (0, 0))) ∧ Aside0 (wc.heap[k1]? = some (.cells #[.int .i64 a4_0, .int .i64 a4_1, .bool a4_2, .bool a4_3] 30 (0, 0))) ∧ Aside0 (wc.heap[h4]? = some (.cells #[.int .i64 a7_0, .int .i64 a7_1] 28 (0, 0))) ∧ Aside0 (wc.heap[k2]? = some (.cells #[.int .i64 a8_0, .int .i64 a8_1, .bool a8_2, .bool a8_3] 30 (0, 0))) ∧ Aside0 (wc.heap[g9]? = some (.cells #[.int .i64 g5, .int .i64 g6, .bool g7, .bool g8] 30 (0, 0))) ∧ Aside0 (wc.heap[e3]? = some (.cells #[.int .i64 h8, .int .i64 h9, .bool i0, .bool i1] 30 (0, 0))) ∧ Aside0 (Below w.heap.size w wc))
 case first => (
 as_aux_lemma => (
 have H := a04.out
 clear a04
 by_cases a05 : l7 = true
 ·(
 subst a05
 rw [if_pos rfl] at H
 replace H := Option.bind_eq_some_iff.mp H; obtain ⟨⟨ai4, ai5, ai6, ai7, bv1⟩, b26, H⟩ := H; (try dsimp only at H); have bv2 := Aside0.mk b26; clear b26
 by_cases a06 : bv1 = true
 ·(
 subst a06
 rw [if_pos rfl] at H
 by_cases a07 : (!(ai4 == a1_0) || (!(ai5 == a1_1) || (!(ai6 == a1_2) || (!(ai7 == a1_3))))) = true
 ·(
 rw [if_pos a07] at H
 exact fy HT_l H
 )
 rw [if_neg a07] at H
 have a66 : (!(ai4 == a1_0) || (!(ai5 == a1_1) || (!(ai6 == a1_2) || (!(ai7 == a1_3))))) = false := by simpa using a07
 clear a07
 (first | rw [a66] | (simp only [i64_w, i32_w]; rw [a66]) | skip)
 by_cases a08 : l4 < 1
 ·(
 rw [if_pos a08] at H
 exact fy HT_l H
 )
 rw [if_neg a08] at H
 have e08 : decide (l4 < 1) = false := decide_eq_false a08
 clear a08
 by_cases a09 : l4 > (wrap64 ((wrap64 (a0_0 + 1)) * (wrap64 (a0_1 + 1))))
 ·(
 rw [if_pos a09] at H
 exact fy HT_l H
 )
 rw [if_neg a09] at H
 have e09 : decide ((wrap64 ((wrap64 (a0_0 + 1)) * (wrap64 (a0_1 + 1)))) < l4) = false := decide_eq_false a09
 clear a09
 have H' := Aside0.mk H
 clear H
 have e10 := d6.out
 have e11 := d7.out
 have e12 := d1.out
 have e13 := d2.out
 have e14 := d3.out
 have e15 := d4.out
 have e16 := c2.out
 have e17 := c3.out
 have e18 := c6.out
 have e19 := c7.out
 have e20 := d9.out
 have e21 := e0.out
 have e22 := e1.out
 have e23 := e2.out
 obtain ⟨bv3, bv4, bv5, bv6⟩ := cf2 a1
 have e24 := s9.out
 have e25 := s8.out
 have e26 := u1.out
 have e27 := u0.out
 have e28 := u3.out
 have e29 := u2.out
 have e30 := j2.out
 have e31 := j1.out
 have e32 := q1.out
 have e33 := q0.out
 have e34 := I0.out
 have e35 := I1.out
 obtain ⟨bv7, bv8, bv9, bw0, bw1, bw2, bw3, bw4⟩ := cf4 b2
 repeat (go_not_at_region 11; go_not_at_region 17; go_not_at_region 26; go_not_at_region 27; go_not_at_region 42; go_not_at_region 78; go_not_at_region 81; first | ((with_reducible refine gate_callee (f := 19) rfl ?_); refine goesL_ (some 518) rfl rfl Try.func19 kr rfl #[.agg #[.int .i64 a0_0, .int .i64 a0_1], .agg #[.int .i64 g5, .int .i64 g6, .bool g7, .bool g8]] rfl sM ?_; (with_reducible refine (impl_BackBeam.calls a0_0 a0_1 g5 g6 g7 g8 ai4 ai5 ai6 ai7 true _ bv2.out).mono ?_); rintro e h61 ⟨rfl, hb⟩; refine ⟨_, rfl, ?_⟩; replace a1 := bQ a1 hb; replace a4 := bQ a4 hb; replace a7 := bQ a7 hb; replace b0 := bQ b0 hb; replace a8 := bQ a8 hb; replace b1 := bQ b1 hb; replace b2 := bQ b2 hb; replace b3 := bQ b3 hb; replace HB := Aside0.mk (below_step bB hb); (try clear hb)) | ((with_reducible refine gate_dst (N := 53) rfl ?_); refine box_ (cs := #[.int .i64 0, .int .i64 0, .bool false, .bool false]) (t := 30) fun h22 hg h62 hbox hb => ?_; have bj5 := Aside0.mk (hbox); have h23 := bS HB hg; have h24 := bS HB hg; have a67 := bL a1 hg; have a68 := bM a1 hg; have a69 := bL a4 hg; have a70 := bM a4 hg; have a71 := bL a7 hg; have a72 := bM a7 hg; have a73 := bL b0 hg; have a74 := bM b0 hg; have a75 := bL a8 hg; have a76 := bM a8 hg; have a77 := bL b1 hg; have a78 := bM b1 hg; have a79 := bL b2 hg; have a80 := bM b2 hg; have a81 := bL b3 hg; have a82 := bM b3 hg; replace a1 := bQ a1 hb; replace a4 := bQ a4 hb; replace a7 := bQ a7 hb; replace b0 := bQ b0 hb; replace a8 := bQ a8 hb; replace b1 := bQ b1 hb; replace b2 := bQ b2 hb; replace b3 := bQ b3 hb; replace HB := Aside0.mk (below_step bB hb); clear hb hbox hg; have e36 := a68.out; have e37 := a67.out; have e38 := a70.out; have e39 := a69.out; have e40 := a72.out; have e41 := a71.out; have e42 := a74.out; have e43 := a73.out; have e44 := a76.out; have e45 := a75.out; have e46 := a78.out; have e47 := a77.out; have e48 := a80.out; have e49 := a79.out; have e50 := a82.out; have e51 := a81.out; obtain ⟨bw5, bw6, bw7, bw8, bw9, bx0, bx1, bx2⟩ := cf4 bj5; have e52 := o1.out; have e53 := o2.out; have e54 := o3.out; have e55 := o4.out; have e56 := h6.out; have e57 := h7.out; have e58 := m0.out; have e59 := m1.out; have e60 := u4.out; have e61 := u5.out; obtain ⟨bx3, bx4, bx5, bx6, bx7, bx8, bx9, by0⟩ := cf4 a4; obtain ⟨by1, by2, by3, by4⟩ := cf2 a1) | go_skip | go_guarded | go_step | go_upon)
 go_meet
 case rel => exact ⟨_, H', ⟨laws_FnBeamsGoOfAll.jx⟩, (bA a1), (bA a4), (bA a7), (bA b0), (bA a8), (bA b1), (bA b2), (bA b3), ⟨bB⟩⟩
 )
 replace a06 := Bool.eq_false_iff.mpr a06
 subst a06
 rw [if_neg nft] at H
 exact fy HT_l H
 )
 replace a05 := Bool.eq_false_iff.mpr a05
 subst a05
 rw [if_neg nft] at H
 have H' := Aside0.mk H
 clear H
 repeat (go_not_at_region 11; go_not_at_region 17; go_not_at_region 26; go_not_at_region 27; go_not_at_region 42; go_not_at_region 78; go_not_at_region 81; first | go_skip | go_guarded | go_step | go_upon)
 go_meet
 case rel => exact ⟨_, H', ⟨laws_FnBeamsGoOfAll.jx⟩, (bA a1), (bA a4), (bA a7), (bA b0), (bA a8), (bA b1), (bA b2), (bA b3), ⟨bB⟩⟩
 )
 )
 clear a04
 obtain ⟨kq, HA, HJ450, a1, a4, a7, b0, a8, b1, b2, b3, HB⟩ := hcut
 cases kq with
 | zero => exact absurd HA.out (by simp [laws_FnBeamsGoOfAll.j11])
 | succ bj6 => (
 as_aux_lemma => (
 have H := HA.out
 clear HA
 simp only [laws_FnBeamsGoOfAll.j11] at H
 have a10 := Aside0.mk H
 clear H
 repeat (go_not_at_if 543; first | go_skip | go_guarded | go_step | go_upon)
 go_cut [543] from 543 to 543 (fun h63 wc => ∃ (kq : Nat), Aside0 (laws_FnBeamsGoOfAll.j12 kq a5 a6 a9 a3_0 a3_1 a4_0 a4_1 a4_2 a4_3 a7_0 a7_1 a8_0 a8_1 a8_2 a8_3 = some r) ∧ Aside0 (kq ≤ bj6) ∧ Aside0 (wc.heap[e9]? = some (.cells #[.int .i64 a0_0, .int .i64 a0_1] 28 (0, 0))) ∧ Aside0 (wc.heap[h2]? = some (.cells #[.int .i64 a1_0, .int .i64 a1_1, .bool a1_2, .bool a1_3] 30 (0, 0))) ∧ Aside0 (wc.heap[k0]? = some (.cells #[.int .i64 a3_0, .int .i64 a3_1] 28 (0, 0))) ∧ Aside0 (wc.heap[k1]? = some (.cells #[.int .i64 a4_0, .int .i64 a4_1, .bool a4_2, .bool a4_3] 30 (0, 0))) ∧ Aside0 (wc.heap[h4]? = some (.cells #[.int .i64 a7_0, .int .i64 a7_1] 28 (0, 0))) ∧ Aside0 (wc.heap[k2]? = some (.cells #[.int .i64 a8_0, .int .i64 a8_1, .bool a8_2, .bool a8_3] 30 (0, 0))) ∧ Aside0 (wc.heap[g9]? = some (.cells #[.int .i64 g5, .int .i64 g6, .bool g7, .bool g8] 30 (0, 0))) ∧ Aside0 (wc.heap[e3]? = some (.cells #[.int .i64 h8, .int .i64 h9, .bool i0, .bool i1] 30 (0, 0))) ∧ Aside0 (Below w.heap.size w wc))
 case first => (
 as_aux_lemma => (
 have H := a10.out
 clear a10
 by_cases a11 : l9 = true
 ·(
 subst a11
 rw [if_pos rfl] at H
 replace H := Option.bind_eq_some_iff.mp H; obtain ⟨⟨a12, a13, a14, a15, by5⟩, b27, H⟩ := H; (try dsimp only at H); have by6 := Aside0.mk b27; clear b27
 replace H := Option.bind_eq_some_iff.mp H; obtain ⟨⟨ai8, ai9, aj0, aj1, by7⟩, b28, H⟩ := H; (try dsimp only at H); have by8 := Aside0.mk b28; clear b28
 by_cases a16 : l3 < 1
 ·(
 rw [if_pos a16] at H
 exact fy HT_l H
 )
 rw [if_neg a16] at H
 have a83 : decide (l3 < 1) = false := decide_eq_false a16
 clear a16
 (first | rw [a83] | (simp only [i64_w, i32_w]; rw [a83]) | skip)
 by_cases a17 : by5 = true
 ·(
 subst a17
 rw [if_pos rfl] at H
 by_cases a18 : by7 = true
 ·(
 subst a18
 rw [if_pos rfl] at H
 by_cases a19 : (!(ai8 == a12) || (!(ai9 == a13) || (!(aj0 == a14) || (!(aj1 == a15))))) = true
 ·(
 rw [if_pos a19] at H
 exact fy HT_l H
 )
 rw [if_neg a19] at H
 have e62 : (!(ai8 == a12) || (!(ai9 == a13) || (!(aj0 == a14) || (!(aj1 == a15))))) = false := by simpa using a19
 clear a19
 by_cases a20 : l4 > l3
 ·(
 rw [if_pos a20] at H
 exact fy HT_l H
 )
 rw [if_neg a20] at H
 have e63 : decide (l3 < l4) = false := decide_eq_false a20
 clear a20
 have H' := Aside0.mk H
 clear H
 have e64 := d6.out
 have e65 := d7.out
 have e66 := d1.out
 have e67 := d2.out
 have e68 := d3.out
 have e69 := d4.out
 have e70 := c2.out
 have e71 := c3.out
 have e72 := c6.out
 have e73 := c7.out
 have e74 := d9.out
 have e75 := e0.out
 have e76 := e1.out
 have e77 := e2.out
 obtain ⟨by9, bz0, bz1, bz2⟩ := cf2 a1
 have e78 := o1.out
 have e79 := o2.out
 have e80 := o3.out
 have e81 := o4.out
 have e82 := h6.out
 have e83 := h7.out
 have e84 := m0.out
 have e85 := m1.out
 have e86 := s8.out
 have e87 := s9.out
 have e88 := u4.out
 have e89 := u5.out
 obtain ⟨bz3, bz4, bz5, bz6, bz7, bz8, bz9, c00⟩ := cf4 a4
 repeat (go_not_at_region 11; go_not_at_region 17; go_not_at_region 26; go_not_at_region 27; go_not_at_region 42; go_not_at_region 78; go_not_at_region 81; first | ((with_reducible refine gate_callee (f := 26) rfl ?_); refine goesL_ (some 547) rfl rfl Try.func26 kr rfl #[.agg #[.int .i64 a0_0, .int .i64 a0_1], .agg #[.int .i64 a1_0, .int .i64 a1_1, .bool a1_2, .bool a1_3], .int .i64 0] rfl sM ?_; (with_reducible refine (impl_BeamAfter.calls a0_0 a0_1 a1_0 a1_1 a1_2 a1_3 0 a12 a13 a14 a15 true _ by6.out).mono ?_); rintro e h64 ⟨rfl, hb⟩; refine ⟨_, rfl, ?_⟩; replace a1 := bQ a1 hb; replace a4 := bQ a4 hb; replace a7 := bQ a7 hb; replace b0 := bQ b0 hb; replace a8 := bQ a8 hb; replace b1 := bQ b1 hb; replace b2 := bQ b2 hb; replace b3 := bQ b3 hb; replace HB := Aside0.mk (below_step bB hb); (try clear hb)) | ((with_reducible refine gate_dst (N := 55) rfl ?_); refine box_ (cs := #[.int .i64 0, .int .i64 0, .bool false, .bool false]) (t := 30) fun h25 hg h65 hbox hb => ?_; have v2 := Aside0.mk (hbox); have h26 := bS HB hg; have h27 := bS HB hg; have a84 := bL a1 hg; have a85 := bM a1 hg; have a86 := bL a4 hg; have a87 := bM a4 hg; have a88 := bL a7 hg; have a89 := bM a7 hg; have a90 := bL b0 hg; have a91 := bM b0 hg; have a92 := bL a8 hg; have a93 := bM a8 hg; have a94 := bL b1 hg; have a95 := bM b1 hg; have a96 := bL b2 hg; have a97 := bM b2 hg; have a98 := bL b3 hg; have a99 := bM b3 hg; replace a1 := bQ a1 hb; replace a4 := bQ a4 hb; replace a7 := bQ a7 hb; replace b0 := bQ b0 hb; replace a8 := bQ a8 hb; replace b1 := bQ b1 hb; replace b2 := bQ b2 hb; replace b3 := bQ b3 hb; replace HB := Aside0.mk (below_step bB hb); clear hb hbox hg; have e90 := a85.out; have e91 := a84.out; have e92 := a87.out; have e93 := a86.out; have e94 := a89.out; have e95 := a88.out; have e96 := a91.out; have e97 := a90.out; have e98 := a93.out; have e99 := a92.out; have ea0 := a95.out; have ea1 := a94.out; have ea2 := a97.out; have ea3 := a96.out; have ea4 := a99.out; have ea5 := a98.out; obtain ⟨c01, c02, c03, c04, c05, c06, c07, c08⟩ := cf4 v2; obtain ⟨c09, c10, c11, c12⟩ := cf2 a1; obtain ⟨c13, c14, c15, c16, c17, c18, c19, c20⟩ := cf4 a4) | ((with_reducible refine gate_callee (f := 26) rfl ?_); refine goesL_ (some 554) rfl rfl Try.func26 kr rfl #[.agg #[.int .i64 a0_0, .int .i64 a0_1], .agg #[.int .i64 a1_0, .int .i64 a1_1, .bool a1_2, .bool a1_3], .int .i64 l3] rfl sM ?_; (with_reducible refine (impl_BeamAfter.calls a0_0 a0_1 a1_0 a1_1 a1_2 a1_3 l3 ai8 ai9 aj0 aj1 true _ by8.out).mono ?_); rintro e h66 ⟨rfl, hb⟩; refine ⟨_, rfl, ?_⟩; replace a1 := bQ a1 hb; replace a4 := bQ a4 hb; replace a7 := bQ a7 hb; replace b0 := bQ b0 hb; replace a8 := bQ a8 hb; replace b1 := bQ b1 hb; replace b2 := bQ b2 hb; replace b3 := bQ b3 hb; replace v2 := (bP (.cells #[.int .i64 a12, .int .i64 a13, .bool a14, .bool a15] 30 (0, 0)) v2 hb); replace HB := Aside0.mk (below_step bB hb); (try clear hb)) | ((with_reducible refine gate_dst (N := 57) rfl ?_); refine box_ (cs := #[.int .i64 0, .int .i64 0, .bool false, .bool false]) (t := 30) fun h28 hg h67 hbox hb => ?_; have bj7 := Aside0.mk (hbox); have h29 := bS HB hg; have h30 := bS HB hg; have aa0 := bL a1 hg; have aa1 := bM a1 hg; have aa2 := bL a4 hg; have aa3 := bM a4 hg; have aa4 := bL a7 hg; have aa5 := bM a7 hg; have aa6 := bL b0 hg; have aa7 := bM b0 hg; have aa8 := bL a8 hg; have aa9 := bM a8 hg; have ab0 := bL b1 hg; have ab1 := bM b1 hg; have ab2 := bL b2 hg; have ab3 := bM b2 hg; have ab4 := bL b3 hg; have ab5 := bM b3 hg; have ab6 := bL v2 hg; have ab7 := bM v2 hg; replace a1 := bQ a1 hb; replace a4 := bQ a4 hb; replace a7 := bQ a7 hb; replace b0 := bQ b0 hb; replace a8 := bQ a8 hb; replace b1 := bQ b1 hb; replace b2 := bQ b2 hb; replace b3 := bQ b3 hb; replace v2 := bQ v2 hb; replace HB := Aside0.mk (below_step bB hb); clear hb hbox hg; have ea6 := aa1.out; have ea7 := aa0.out; have ea8 := aa3.out; have ea9 := aa2.out; have eb0 := aa5.out; have eb1 := aa4.out; have eb2 := aa7.out; have eb3 := aa6.out; have eb4 := aa9.out; have eb5 := aa8.out; have eb6 := ab1.out; have eb7 := ab0.out; have eb8 := ab3.out; have eb9 := ab2.out; have ec0 := ab5.out; have ec1 := ab4.out; have ec2 := ab7.out; have ec3 := ab6.out; obtain ⟨c21, c22, c23, c24, c25, c26, c27, c28⟩ := cf4 bj7; obtain ⟨c29, c30, c31, c32, c33, c34, c35, c36⟩ := cf4 v2) | go_skip | go_guarded | go_step | go_upon)
 go_meet
 case rel => exact ⟨_, H', ⟨laws_FnBeamsGoOfAll.jx⟩, (bA a1), (bA a4), (bA a7), (bA b0), (bA a8), (bA b1), (bA b2), (bA b3), ⟨bB⟩⟩
 )
 replace a18 := Bool.eq_false_iff.mpr a18
 subst a18
 rw [if_neg nft] at H
 exact fy HT_l H
 )
 replace a17 := Bool.eq_false_iff.mpr a17
 subst a17
 rw [if_neg nft] at H
 exact fy HT_l H
 )
 replace a11 := Bool.eq_false_iff.mpr a11
 subst a11
 rw [if_neg nft] at H
 have H' := Aside0.mk H
 clear H
 repeat (go_not_at_region 11; go_not_at_region 17; go_not_at_region 26; go_not_at_region 27; go_not_at_region 42; go_not_at_region 78; go_not_at_region 81; first | go_skip | go_guarded | go_step | go_upon)
 go_meet
 case rel => exact ⟨_, H', ⟨laws_FnBeamsGoOfAll.jx⟩, (bA a1), (bA a4), (bA a7), (bA b0), (bA a8), (bA b1), (bA b2), (bA b3), ⟨bB⟩⟩
 )
 )
 clear a10
 obtain ⟨kq, HA, HJ490, a1, a4, a7, b0, a8, b1, b2, b3, HB⟩ := hcut
 cases kq with
 | zero => exact absurd HA.out (by simp [laws_FnBeamsGoOfAll.j12])
 | succ l2 => (
 as_aux_lemma => (
 have H := HA.out
 clear HA
 simp only [laws_FnBeamsGoOfAll.j12] at H
 replace H := Option.bind_eq_some_iff.mp H; obtain ⟨⟨D7, G4⟩, b29, H⟩ := H; (try dsimp only at H); have c37 := Aside0.mk b29; clear b29
 replace H := Option.bind_eq_some_iff.mp H; obtain ⟨⟨bf1, bf2⟩, b30, H⟩ := H; (try dsimp only at H); have c38 := Aside0.mk b30; clear b30
 replace H := Option.bind_eq_some_iff.mp H; obtain ⟨⟨aj2, aj3⟩, b31, H⟩ := H; (try dsimp only at H); have c39 := Aside0.mk b31; clear b31
 replace H := Option.bind_eq_some_iff.mp H; obtain ⟨⟨bf3, bf4⟩, b32, H⟩ := H; (try dsimp only at H); have c40 := Aside0.mk b32; clear b32
 replace H := Option.bind_eq_some_iff.mp H; obtain ⟨⟨m4, m5, n9, o0, D8⟩, b33, H⟩ := H; (try dsimp only at H); have c41 := Aside0.mk b33; clear b33
 replace H := Option.bind_eq_some_iff.mp H; obtain ⟨⟨y4, y5, y6, y7, bf5⟩, b34, H⟩ := H; (try dsimp only at H); have c42 := Aside0.mk b34; clear b34
 replace H := Option.bind_eq_some_iff.mp H; obtain ⟨⟨N3, N4, a21⟩, b35, H⟩ := H; (try dsimp only at H); have c43 := Aside0.mk b35; clear b35
 replace H := Option.bind_eq_some_iff.mp H; obtain ⟨⟨bf6, bf7, bf8⟩, b36, H⟩ := H; (try dsimp only at H); have c44 := Aside0.mk b36; clear b36
 have a22 := Aside0.mk H
 clear H
 have ec4 := d2.out
 have ec5 := d1.out
 have ec6 := o2.out
 have ec7 := o1.out
 have ec8 := G8.out
 have ec9 := G9.out
 have ed0 := k3.out
 have ed1 := k4.out
 have ed2 := s4.out
 have ed3 := s5.out
 have ed4 := u0.out
 have ed5 := u1.out
 have ed6 := z1.out
 have ed7 := z2.out
 obtain ⟨aj4, aj5, aj6, aj7⟩ := cf2 a7
 have ed8 := d4.out
 have ed9 := d3.out
 have ee0 := o4.out
 have ee1 := o3.out
 have ee2 := k6.out
 have ee3 := k7.out
 have ee4 := s6.out
 have ee5 := s7.out
 have ee6 := u2.out
 have ee7 := u3.out
 have ee8 := z3.out
 have ee9 := z4.out
 obtain ⟨aj8, aj9, ak0, ak1, ak2, ak3, ak4, ak5⟩ := cf4 b0
 go_upto_region 63 with (first | ((with_reducible refine gate_callee (f := 27) rfl ?_); refine goesL_ (some 582) rfl rfl Try.func27 kr rfl #[.agg #[.int .i64 a3_0, .int .i64 a3_1], .agg #[.int .i64 a4_0, .int .i64 a4_1, .bool a4_2, .bool a4_3], .int .i64 a5, .int .i64 a6] rfl sM ?_; (with_reducible refine (impl_FirstPass.calls a3_0 a3_1 a4_0 a4_1 a4_2 a4_3 a5 a6 D7 G4 _ c37.out).mono ?_); rintro e h68 ⟨rfl, hb⟩; refine ⟨_, rfl, ?_⟩; replace a1 := bQ a1 hb; replace a4 := bQ a4 hb; replace a7 := bQ a7 hb; replace b0 := bQ b0 hb; replace a8 := bQ a8 hb; replace b1 := bQ b1 hb; replace b2 := bQ b2 hb; replace b3 := bQ b3 hb; replace HB := Aside0.mk (below_step bB hb); (try clear hb); obtain ⟨ak6, ak7, ak8, ak9⟩ := cf2 a7; obtain ⟨al0, al1, al2, al3, al4, al5, al6, al7⟩ := cf4 b0) | ((with_reducible refine gate_callee (f := 28) rfl ?_); refine goesL_ (some 590) rfl rfl Try.func28 kr rfl #[.agg #[.int .i64 a3_0, .int .i64 a3_1], .agg #[.int .i64 a4_0, .int .i64 a4_1, .bool a4_2, .bool a4_3], .int .i64 a5, .int .i64 a6] rfl sM ?_; (with_reducible refine (spec_FirstPass.calls l2 a3_0 a3_1 a4_0 a4_1 a4_2 a4_3 a5 a6 bf1 bf2 _ c38.out).mono ?_); rintro e h69 ⟨rfl, hb⟩; refine ⟨_, rfl, ?_⟩; replace a1 := bQ a1 hb; replace a4 := bQ a4 hb; replace a7 := bQ a7 hb; replace b0 := bQ b0 hb; replace a8 := bQ a8 hb; replace b1 := bQ b1 hb; replace b2 := bQ b2 hb; replace b3 := bQ b3 hb; replace HB := Aside0.mk (below_step bB hb); (try clear hb); obtain ⟨al8, al9, am0, am1⟩ := cf2 a7; obtain ⟨am2, am3, am4, am5, am6, am7, am8, am9⟩ := cf4 b0) | ((with_reducible refine gate_callee (f := 29) rfl ?_); refine goesL_ (some 598) rfl rfl Try.func29 kr rfl #[.agg #[.int .i64 a3_0, .int .i64 a3_1], .agg #[.int .i64 a4_0, .int .i64 a4_1, .bool a4_2, .bool a4_3], .int .i64 a5, .int .i64 a6] rfl sM ?_; (with_reducible refine (impl_DoesPass.calls a3_0 a3_1 a4_0 a4_1 a4_2 a4_3 a5 a6 aj2 aj3 _ c39.out).mono ?_); rintro e h70 ⟨rfl, hb⟩; refine ⟨_, rfl, ?_⟩; replace a1 := bQ a1 hb; replace a4 := bQ a4 hb; replace a7 := bQ a7 hb; replace b0 := bQ b0 hb; replace a8 := bQ a8 hb; replace b1 := bQ b1 hb; replace b2 := bQ b2 hb; replace b3 := bQ b3 hb; replace HB := Aside0.mk (below_step bB hb); (try clear hb); obtain ⟨an0, an1, an2, an3⟩ := cf2 a7; obtain ⟨an4, an5, an6, an7, an8, an9, ao0, ao1⟩ := cf4 b0) | ((with_reducible refine gate_callee (f := 30) rfl ?_); refine goesL_ (some 606) rfl rfl Try.func30 kr rfl #[.agg #[.int .i64 a3_0, .int .i64 a3_1], .agg #[.int .i64 a4_0, .int .i64 a4_1, .bool a4_2, .bool a4_3], .int .i64 a5, .int .i64 a6] rfl sM ?_; (with_reducible refine (spec_DoesPass.calls l2 a3_0 a3_1 a4_0 a4_1 a4_2 a4_3 a5 a6 bf3 bf4 _ c40.out).mono ?_); rintro e h71 ⟨rfl, hb⟩; refine ⟨_, rfl, ?_⟩; replace a1 := bQ a1 hb; replace a4 := bQ a4 hb; replace a7 := bQ a7 hb; replace b0 := bQ b0 hb; replace a8 := bQ a8 hb; replace b1 := bQ b1 hb; replace b2 := bQ b2 hb; replace b3 := bQ b3 hb; replace HB := Aside0.mk (below_step bB hb); (try clear hb); have ef0 := c3.out; have ef1 := c2.out; have ef2 := h7.out; have ef3 := h6.out; have ef4 := l5.out; have ef5 := l6.out; have ef6 := j1.out; have ef7 := j2.out; have ef8 := k8.out; have ef9 := k9.out; obtain ⟨ao2, ao3, ao4, ao5⟩ := cf2 a8; have eg0 := c7.out; have eg1 := c6.out; have eg2 := m1.out; have eg3 := m0.out; have eg4 := q0.out; have eg5 := q1.out; have eg6 := u6.out; have eg7 := u7.out; obtain ⟨ao6, ao7, ao8, ao9, ap0, ap1, ap2, ap3⟩ := cf4 b1) | ((with_reducible refine gate_callee (f := 26) rfl ?_); refine goesL_ (some 613) rfl rfl Try.func26 kr rfl #[.agg #[.int .i64 a7_0, .int .i64 a7_1], .agg #[.int .i64 a8_0, .int .i64 a8_1, .bool a8_2, .bool a8_3], .int .i64 a9] rfl sM ?_; (with_reducible refine (impl_BeamAfter.calls a7_0 a7_1 a8_0 a8_1 a8_2 a8_3 a9 m4 m5 n9 o0 D8 _ c41.out).mono ?_); rintro e h72 ⟨rfl, hb⟩; refine ⟨_, rfl, ?_⟩; replace a1 := bQ a1 hb; replace a4 := bQ a4 hb; replace a7 := bQ a7 hb; replace b0 := bQ b0 hb; replace a8 := bQ a8 hb; replace b1 := bQ b1 hb; replace b2 := bQ b2 hb; replace b3 := bQ b3 hb; replace HB := Aside0.mk (below_step bB hb); (try clear hb)) | ((with_reducible refine gate_dst (N := 67) rfl ?_); refine box_ (cs := #[.int .i64 0, .int .i64 0, .bool false, .bool false]) (t := 30) fun E8 hg h73 hbox hb => ?_; have c5 := Aside0.mk (hbox); have h31 := bS HB hg; have h32 := bS HB hg; have o7 := bL a1 hg; have o8 := bM a1 hg; have o9 := bL a4 hg; have p0 := bM a4 hg; have m6 := bL a7 hg; have m7 := bM a7 hg; have m8 := bL b0 hg; have m9 := bM b0 hg; have j3 := bL a8 hg; have j4 := bM a8 hg; have n0 := bL b1 hg; have n1 := bM b1 hg; have p1 := bL b2 hg; have p2 := bM b2 hg; have p3 := bL b3 hg; have p4 := bM b3 hg; replace a1 := bQ a1 hb; replace a4 := bQ a4 hb; replace a7 := bQ a7 hb; replace b0 := bQ b0 hb; replace a8 := bQ a8 hb; replace b1 := bQ b1 hb; replace b2 := bQ b2 hb; replace b3 := bQ b3 hb; replace HB := Aside0.mk (below_step bB hb); clear hb hbox hg; have eg8 := o8.out; have eg9 := o7.out; have eh0 := p0.out; have eh1 := o9.out; have eh2 := m7.out; have eh3 := m6.out; have eh4 := m9.out; have eh5 := m8.out; have eh6 := j4.out; have eh7 := j3.out; have eh8 := n1.out; have eh9 := n0.out; have ei0 := p2.out; have ei1 := p1.out; have ei2 := p4.out; have ei3 := p3.out; obtain ⟨ap4, ap5, ap6, ap7, ap8, ap9, aq0, aq1⟩ := cf4 c5; obtain ⟨aq2, aq3, aq4, aq5⟩ := cf2 a8; obtain ⟨aq6, aq7, aq8, aq9, ar0, ar1, ar2, ar3⟩ := cf4 b1) | ((with_reducible refine gate_callee (f := 31) rfl ?_); refine goesL_ (some 620) rfl rfl Try.func31 kr rfl #[.agg #[.int .i64 a7_0, .int .i64 a7_1], .agg #[.int .i64 a8_0, .int .i64 a8_1, .bool a8_2, .bool a8_3], .int .i64 a9] rfl sM ?_; (with_reducible refine (spec_BeamAfter.calls l2 a7_0 a7_1 a8_0 a8_1 a8_2 a8_3 a9 y4 y5 y6 y7 bf5 _ c42.out).mono ?_); rintro e h74 ⟨rfl, hb⟩; refine ⟨_, rfl, ?_⟩; replace a1 := bQ a1 hb; replace a4 := bQ a4 hb; replace a7 := bQ a7 hb; replace b0 := bQ b0 hb; replace a8 := bQ a8 hb; replace b1 := bQ b1 hb; replace b2 := bQ b2 hb; replace b3 := bQ b3 hb; replace c5 := (bP (.cells #[.int .i64 m4, .int .i64 m5, .bool n9, .bool o0] 30 (0, 0)) c5 hb); replace HB := Aside0.mk (below_step bB hb); (try clear hb)) | ((with_reducible refine gate_dst (N := 69) rfl ?_); refine box_ (cs := #[.int .i64 0, .int .i64 0, .bool false, .bool false]) (t := 30) fun E9 hg h75 hbox hb => ?_; have d0 := Aside0.mk (hbox); have h33 := bS HB hg; have h34 := bS HB hg; have z7 := bL a1 hg; have z8 := bM a1 hg; have z9 := bL a4 hg; have A0 := bM a4 hg; have v3 := bL a7 hg; have v4 := bM a7 hg; have v5 := bL b0 hg; have v6 := bM b0 hg; have j5 := bL a8 hg; have j6 := bM a8 hg; have q4 := bL b1 hg; have q5 := bM b1 hg; have A1 := bL b2 hg; have A2 := bM b2 hg; have A3 := bL b3 hg; have A4 := bM b3 hg; have p5 := bL c5 hg; have p6 := bM c5 hg; replace a1 := bQ a1 hb; replace a4 := bQ a4 hb; replace a7 := bQ a7 hb; replace b0 := bQ b0 hb; replace a8 := bQ a8 hb; replace b1 := bQ b1 hb; replace b2 := bQ b2 hb; replace b3 := bQ b3 hb; replace c5 := bQ c5 hb; replace HB := Aside0.mk (below_step bB hb); clear hb hbox hg; have ei4 := z8.out; have ei5 := z7.out; have ei6 := A0.out; have ei7 := z9.out; have ei8 := v4.out; have ei9 := v3.out; have ej0 := v6.out; have ej1 := v5.out; have ej2 := j6.out; have ej3 := j5.out; have ej4 := q5.out; have ej5 := q4.out; have ej6 := A2.out; have ej7 := A1.out; have ej8 := A4.out; have ej9 := A3.out; have ek0 := p6.out; have ek1 := p5.out; obtain ⟨ar4, ar5, ar6, ar7, ar8, ar9, as0, as1⟩ := cf4 d0; obtain ⟨as2, as3, as4, as5⟩ := cf2 a8; obtain ⟨as6, as7, as8, as9, at0, at1, at2, at3⟩ := cf4 b1) | ((with_reducible refine gate_callee (f := 32) rfl ?_); refine goesL_ (some 627) rfl rfl Try.func32 kr rfl #[.agg #[.int .i64 a7_0, .int .i64 a7_1], .agg #[.int .i64 a8_0, .int .i64 a8_1, .bool a8_2, .bool a8_3], .int .i64 a9] rfl sM ?_; (with_reducible refine (impl_UnfoldedPlace.calls l2 a7_0 a7_1 a8_0 a8_1 a8_2 a8_3 a9 N3 N4 a21 _ c43.out).mono ?_); rintro e h76 ⟨rfl, hb⟩; refine ⟨_, rfl, ?_⟩; replace a1 := bQ a1 hb; replace a4 := bQ a4 hb; replace a7 := bQ a7 hb; replace b0 := bQ b0 hb; replace a8 := bQ a8 hb; replace b1 := bQ b1 hb; replace b2 := bQ b2 hb; replace b3 := bQ b3 hb; replace c5 := bQ c5 hb; replace d0 := (bP (.cells #[.int .i64 y4, .int .i64 y5, .bool y6, .bool y7] 30 (0, 0)) d0 hb); replace HB := Aside0.mk (below_step bB hb); (try clear hb); obtain ⟨at4, at5, at6, at7⟩ := cf2 a8; obtain ⟨at8, at9, au0, au1, au2, au3, au4, au5⟩ := cf4 b1) | ((with_reducible refine gate_callee (f := 33) rfl ?_); refine goesL_ (some 635) rfl rfl Try.func33 kr rfl #[.agg #[.int .i64 a7_0, .int .i64 a7_1], .agg #[.int .i64 a8_0, .int .i64 a8_1, .bool a8_2, .bool a8_3], .int .i64 a9] rfl sM ?_; (with_reducible refine (spec_UnfoldedPlace.calls a7_0 a7_1 a8_0 a8_1 a8_2 a8_3 a9 bf6 bf7 bf8 _ c44.out).mono ?_); rintro e h77 ⟨rfl, hb⟩; refine ⟨_, rfl, ?_⟩; replace a1 := bQ a1 hb; replace a4 := bQ a4 hb; replace a7 := bQ a7 hb; replace b0 := bQ b0 hb; replace a8 := bQ a8 hb; replace b1 := bQ b1 hb; replace b2 := bQ b2 hb; replace b3 := bQ b3 hb; replace c5 := bQ c5 hb; replace d0 := bQ d0 hb; replace HB := Aside0.mk (below_step bB hb); (try clear hb)))
 (try simp only [Act.put, List.setIfInBounds_toArray, List.set_cons_zero, List.set_cons_succ])
 go_cut [694] from 694 to 694 (fun c45 wc => ∃ (kq : Nat) (y8 : Bool), c45 = .bool y8 ∧ Aside0 (laws_FnBeamsGoOfAll.j13 kq a5 a6 a9 D7 G4 D8 N3 N4 y8 a3_0 a3_1 a4_0 a4_1 a4_2 a4_3 a7_0 a7_1 a8_0 a8_1 a8_2 a8_3 m4 m5 n9 o0 = some r) ∧ Aside0 (kq ≤ l2) ∧ Aside0 (wc.heap[e9]? = some (.cells #[.int .i64 a0_0, .int .i64 a0_1] 28 (0, 0))) ∧ Aside0 (wc.heap[h2]? = some (.cells #[.int .i64 a1_0, .int .i64 a1_1, .bool a1_2, .bool a1_3] 30 (0, 0))) ∧ Aside0 (wc.heap[k0]? = some (.cells #[.int .i64 a3_0, .int .i64 a3_1] 28 (0, 0))) ∧ Aside0 (wc.heap[k1]? = some (.cells #[.int .i64 a4_0, .int .i64 a4_1, .bool a4_2, .bool a4_3] 30 (0, 0))) ∧ Aside0 (wc.heap[h4]? = some (.cells #[.int .i64 a7_0, .int .i64 a7_1] 28 (0, 0))) ∧ Aside0 (wc.heap[k2]? = some (.cells #[.int .i64 a8_0, .int .i64 a8_1, .bool a8_2, .bool a8_3] 30 (0, 0))) ∧ Aside0 (wc.heap[g9]? = some (.cells #[.int .i64 g5, .int .i64 g6, .bool g7, .bool g8] 30 (0, 0))) ∧ Aside0 (wc.heap[e3]? = some (.cells #[.int .i64 h8, .int .i64 h9, .bool i0, .bool i1] 30 (0, 0))) ∧ Aside0 (wc.heap[E8]? = some (.cells #[.int .i64 m4, .int .i64 m5, .bool n9, .bool o0] 30 (0, 0))) ∧ Aside0 (wc.heap[E9]? = some (.cells #[.int .i64 y4, .int .i64 y5, .bool y6, .bool y7] 30 (0, 0))) ∧ Aside0 (Below w.heap.size w wc))
 case first => (
 as_aux_lemma => (
 have H := a22.out
 clear a22
 by_cases a23 : (G4 != bf2) = true
 ·(
 rw [if_pos a23] at H
 exact absurd H (by cases l2 <;> simp [laws_FnBeamsGoOfAll.j13, HT_l.out])
 )
 rw [if_neg a23] at H
 obtain ⟨ab8, ek2, ek3⟩ := nf a23
 clear a23
 (first | rw [ab8] | (simp only [i64_w, i32_w]; rw [ab8]) | skip)
 by_cases a24 : D7 = bf1
 ·(
 rw [if_pos a24] at H
 obtain ⟨ek4, ek5⟩ := yE a24
 clear a24
 by_cases a25 : (aj3 != bf4) = true
 ·(
 rw [if_pos a25] at H
 exact absurd H (by cases l2 <;> simp [laws_FnBeamsGoOfAll.j13, HT_l.out])
 )
 rw [if_neg a25] at H
 obtain ⟨ek6, ek7, ek8⟩ := nf a25
 clear a25
 by_cases a26 : (aj2 != bf3) = true
 ·(
 rw [if_pos a26] at H
 exact absurd H (by cases l2 <;> simp [laws_FnBeamsGoOfAll.j13, HT_l.out])
 )
 rw [if_neg a26] at H
 obtain ⟨ek9, el0, el1⟩ := nf a26
 clear a26
 by_cases a27 : (D8 != bf5) = true
 ·(
 rw [if_pos a27] at H
 exact absurd H (by cases l2 <;> simp [laws_FnBeamsGoOfAll.j13, HT_l.out])
 )
 rw [if_neg a27] at H
 obtain ⟨el2, el3, el4⟩ := nf a27
 clear a27
 by_cases a28 : (!(m4 == y4) || (!(m5 == y5) || (!(n9 == y6) || (!(o0 == y7))))) = true
 ·(
 rw [if_pos a28] at H
 exact absurd H (by cases l2 <;> simp [laws_FnBeamsGoOfAll.j13, HT_l.out])
 )
 rw [if_neg a28] at H
 have el5 : (!(m4 == y4) || (!(m5 == y5) || (!(n9 == y6) || (!(o0 == y7))))) = false := by simpa using a28
 clear a28
 by_cases a29 : (a21 != bf8) = true
 ·(
 rw [if_pos a29] at H
 exact absurd H (by cases l2 <;> simp [laws_FnBeamsGoOfAll.j13, HT_l.out])
 )
 rw [if_neg a29] at H
 obtain ⟨el6, el7, el8⟩ := nf a29
 clear a29
 by_cases a30 : N3 = bf6
 ·(
 rw [if_pos a30] at H
 obtain ⟨el9, em0⟩ := yE a30
 clear a30
 by_cases a31 : N4 = bf7
 ·(
 rw [if_pos a31] at H
 obtain ⟨em1, em2⟩ := yE a31
 clear a31
 by_cases a32 : aj3 = true
 ·(
 subst a32
 rw [if_pos rfl] at H
 by_cases a33 : (G4 != aj2) = true
 ·(
 rw [if_pos a33] at H
 exact absurd H (by cases l2 <;> simp [laws_FnBeamsGoOfAll.j13, HT_l.out])
 )
 rw [if_neg a33] at H
 obtain ⟨em3, em4, em5⟩ := nf a33
 clear a33
 have H' := Aside0.mk H
 clear H
 have em6 := o8.out
 have em7 := o7.out
 have em8 := p0.out
 have em9 := o9.out
 have en0 := m7.out
 have en1 := m6.out
 have en2 := m9.out
 have en3 := m8.out
 have en4 := j4.out
 have en5 := j3.out
 have en6 := n1.out
 have en7 := n0.out
 have en8 := p2.out
 have en9 := p1.out
 have eo0 := p4.out
 have eo1 := p3.out
 have eo2 := p5.out
 have eo3 := p6.out
 obtain ⟨c46, c47, c48, c49, c50, c51, c52, c53⟩ := cf4 c5
 have eo4 := z8.out
 have eo5 := z7.out
 have eo6 := A0.out
 have eo7 := z9.out
 have eo8 := v4.out
 have eo9 := v3.out
 have ep0 := v6.out
 have ep1 := v5.out
 have ep2 := j6.out
 have ep3 := j5.out
 have ep4 := q5.out
 have ep5 := q4.out
 have ep6 := A2.out
 have ep7 := A1.out
 have ep8 := A4.out
 have ep9 := A3.out
 obtain ⟨c54, c55, c56, c57, c58, c59, c60, c61⟩ := cf4 d0
 repeat (go_not_at_region 11; go_not_at_region 17; go_not_at_region 26; go_not_at_region 27; go_not_at_region 42; go_not_at_region 78; go_not_at_region 81; first | go_skip | go_guarded | go_step | go_upon)
 go_meet
 case rel => exact ⟨_, ((a21 != D8)), sR, H', ⟨laws_FnBeamsGoOfAll.jx⟩, (bA a1), (bA a4), (bA a7), (bA b0), (bA a8), (bA b1), (bA b2), (bA b3), (bA c5), (bA d0), ⟨bB⟩⟩
 )
 replace a32 := Bool.eq_false_iff.mpr a32
 subst a32
 rw [if_neg nft] at H
 by_cases a34 : (G4 != false) = true
 ·(
 rw [if_pos a34] at H
 exact absurd H (by cases l2 <;> simp [laws_FnBeamsGoOfAll.j13, HT_l.out])
 )
 rw [if_neg a34] at H
 obtain ⟨eq0, eq1, eq2⟩ := nf a34
 clear a34
 have H' := Aside0.mk H
 clear H
 have eq3 := o8.out
 have eq4 := o7.out
 have eq5 := p0.out
 have eq6 := o9.out
 have eq7 := m7.out
 have eq8 := m6.out
 have eq9 := m9.out
 have er0 := m8.out
 have er1 := j4.out
 have er2 := j3.out
 have er3 := n1.out
 have er4 := n0.out
 have er5 := p2.out
 have er6 := p1.out
 have er7 := p4.out
 have er8 := p3.out
 have er9 := p5.out
 have es0 := p6.out
 obtain ⟨c62, c63, c64, c65, c66, c67, c68, c69⟩ := cf4 c5
 have es1 := z8.out
 have es2 := z7.out
 have es3 := A0.out
 have es4 := z9.out
 have es5 := v4.out
 have es6 := v3.out
 have es7 := v6.out
 have es8 := v5.out
 have es9 := j6.out
 have et0 := j5.out
 have et1 := q5.out
 have et2 := q4.out
 have et3 := A2.out
 have et4 := A1.out
 have et5 := A4.out
 have et6 := A3.out
 obtain ⟨c70, c71, c72, c73, c74, c75, c76, c77⟩ := cf4 d0
 repeat (go_not_at_region 11; go_not_at_region 17; go_not_at_region 26; go_not_at_region 27; go_not_at_region 42; go_not_at_region 78; go_not_at_region 81; first | go_skip | go_guarded | go_step | go_upon)
 go_meet
 case rel => exact ⟨_, ((a21 != D8)), sR, H', ⟨laws_FnBeamsGoOfAll.jx⟩, (bA a1), (bA a4), (bA a7), (bA b0), (bA a8), (bA b1), (bA b2), (bA b3), (bA c5), (bA d0), ⟨bB⟩⟩
 )
 rw [if_neg a31] at H
 exact absurd H (by cases l2 <;> simp [laws_FnBeamsGoOfAll.j13, HT_l.out])
 )
 rw [if_neg a30] at H
 exact absurd H (by cases l2 <;> simp [laws_FnBeamsGoOfAll.j13, HT_l.out])
 )
 rw [if_neg a24] at H
 exact absurd H (by cases l2 <;> simp [laws_FnBeamsGoOfAll.j13, HT_l.out])
 )
 )
 clear a22
 try clear aj4
 try clear aj5
 try clear aj8
 try clear aj9
 try clear ak0
 try clear ak1
 try clear ak6
 try clear ak7
 try clear al0
 try clear al1
 try clear al2
 try clear al3
 try clear al8
 try clear al9
 try clear am2
 try clear am3
 try clear am4
 try clear am5
 try clear an0
 try clear an1
 try clear an4
 try clear an5
 try clear an6
 try clear an7
 try clear ao2
 try clear ao3
 try clear ao6
 try clear ao7
 try clear ao8
 try clear ao9
 try clear ap4
 try clear ap5
 try clear ap6
 try clear ap7
 try clear aq2
 try clear aq3
 try clear aq6
 try clear aq7
 try clear aq8
 try clear aq9
 try clear ar4
 try clear ar5
 try clear ar6
 try clear ar7
 try clear as2
 try clear as3
 try clear as6
 try clear as7
 try clear as8
 try clear as9
 try clear at4
 try clear at5
 try clear at8
 try clear at9
 try clear au0
 try clear au1
 try clear aj6
 try clear aj7
 try clear ak2
 try clear ak3
 try clear ak4
 try clear ak5
 try clear ak8
 try clear ak9
 try clear al4
 try clear al5
 try clear al6
 try clear al7
 try clear am0
 try clear am1
 try clear am6
 try clear am7
 try clear am8
 try clear am9
 try clear an2
 try clear an3
 try clear an8
 try clear an9
 try clear ao0
 try clear ao1
 try clear ao4
 try clear ao5
 try clear ap0
 try clear ap1
 try clear ap2
 try clear ap3
 try clear ap8
 try clear ap9
 try clear aq0
 try clear aq1
 try clear aq4
 try clear aq5
 try clear ar0
 try clear ar1
 try clear ar2
 try clear ar3
 try clear ar8
 try clear ar9
 try clear as0
 try clear as1
 try clear as4
 try clear as5
 try clear at0
 try clear at1
 try clear at2
 try clear at3
 try clear at6
 try clear at7
 try clear au2
 try clear au3
 try clear au4
 try clear au5
 obtain ⟨kq, y8, rfl, HA, HJ548, a1, a4, a7, b0, a8, b1, b2, b3, c5, d0, HB⟩ := hcut
 (try clear ec4); (try clear ec5); (try clear ec6); (try clear ec7); (try clear ec8); (try clear ec9); (try clear ed0); (try clear ed1); (try clear ed2); (try clear ed3); (try clear ed4); (try clear ed5); (try clear ed6); (try clear ed7); (try clear aj4); (try clear aj5); (try clear aj6); (try clear aj7); (try clear ed8); (try clear ed9); (try clear ee0); (try clear ee1); (try clear ee2); (try clear ee3); (try clear ee4); (try clear ee5); (try clear ee6); (try clear ee7); (try clear ee8); (try clear ee9); (try clear aj8); (try clear aj9); (try clear ak0); (try clear ak1); (try clear ak2); (try clear ak3); (try clear ak4); (try clear ak5); (try clear ak6); (try clear ak7); (try clear ak8); (try clear ak9); (try clear al0); (try clear al1); (try clear al2); (try clear al3); (try clear al4); (try clear al5); (try clear al6); (try clear al7); (try clear al8); (try clear al9); (try clear am0); (try clear am1); (try clear am2); (try clear am3); (try clear am4); (try clear am5); (try clear am6); (try clear am7); (try clear am8); (try clear am9); (try clear an0); (try clear an1); (try clear an2); (try clear an3); (try clear an4); (try clear an5); (try clear an6); (try clear an7); (try clear an8); (try clear an9); (try clear ao0); (try clear ao1); (try clear ao2); (try clear ao3); (try clear ao4); (try clear ao5); (try clear ao6); (try clear ao7); (try clear ao8); (try clear ao9); (try clear ap0); (try clear ap1); (try clear ap2); (try clear ap3); (try clear ap4); (try clear ap5); (try clear ap6); (try clear ap7); (try clear ap8); (try clear ap9); (try clear aq0); (try clear aq1); (try clear aq2); (try clear aq3); (try clear aq4); (try clear aq5); (try clear aq6); (try clear aq7); (try clear aq8); (try clear aq9); (try clear ar0); (try clear ar1); (try clear ar2); (try clear ar3); (try clear ar4); (try clear ar5); (try clear ar6); (try clear ar7); (try clear ar8); (try clear ar9); (try clear as0); (try clear as1); (try clear as2); (try clear as3); (try clear as4); (try clear as5); (try clear as6); (try clear as7); (try clear as8); (try clear as9); (try clear at0); (try clear at1); (try clear at2); (try clear at3); (try clear at4); (try clear at5); (try clear at6); (try clear at7); (try clear at8); (try clear at9); (try clear au0); (try clear au1); (try clear au2); (try clear au3); (try clear au4); (try clear au5); (try clear ef0); (try clear ef1); (try clear ef2); (try clear ef3); (try clear ef4); (try clear ef5); (try clear ef6); (try clear ef7); (try clear ef8); (try clear ef9); (try clear eg0); (try clear eg1); (try clear eg2); (try clear eg3); (try clear eg4); (try clear eg5); (try clear eg6); (try clear eg7); (try clear eg8); (try clear eg9); (try clear eh0); (try clear eh1); (try clear eh2); (try clear eh3); (try clear eh4); (try clear eh5); (try clear eh6); (try clear eh7); (try clear eh8); (try clear eh9); (try clear ei0); (try clear ei1); (try clear ei2); (try clear ei3); (try clear ei4); (try clear ei5); (try clear ei6); (try clear ei7); (try clear ei8); (try clear ei9); (try clear ej0); (try clear ej1); (try clear ej2); (try clear ej3); (try clear ej4); (try clear ej5); (try clear ej6); (try clear ej7); (try clear ej8); (try clear ej9); (try clear ek0); (try clear ek1)
 cases kq with
 | zero => exact absurd HA.out (by simp [laws_FnBeamsGoOfAll.j13])
 | succ bj8 => (
 as_aux_lemma => (
 have H := HA.out
 clear HA
 simp only [laws_FnBeamsGoOfAll.j13] at H
 by_cases a35 : y8 = true
 ·(
 subst a35
 rw [if_pos rfl] at H
 exact fy HT_l H
 )
 replace a35 := Bool.eq_false_iff.mpr a35
 subst a35
 rw [if_neg nft] at H
 have a36 := Aside0.mk H
 clear H
 repeat (go_not_at_if 695; first | go_skip | go_guarded | go_step | go_upon)
 go_cut [695] from 695 to 695 (fun h78 wc => ∃ (kq : Nat), Aside0 (laws_FnBeamsGoOfAll.j14 kq a9 D8 N3 N4 a7_0 a7_1 a8_0 a8_1 a8_2 a8_3 m4 m5 n9 o0 = some r) ∧ Aside0 (kq ≤ bj8) ∧ Aside0 (wc.heap[e9]? = some (.cells #[.int .i64 a0_0, .int .i64 a0_1] 28 (0, 0))) ∧ Aside0 (wc.heap[h2]? = some (.cells #[.int .i64 a1_0, .int .i64 a1_1, .bool a1_2, .bool a1_3] 30 (0, 0))) ∧ Aside0 (wc.heap[k0]? = some (.cells #[.int .i64 a3_0, .int .i64 a3_1] 28 (0, 0))) ∧ Aside0 (wc.heap[k1]? = some (.cells #[.int .i64 a4_0, .int .i64 a4_1, .bool a4_2, .bool a4_3] 30 (0, 0))) ∧ Aside0 (wc.heap[h4]? = some (.cells #[.int .i64 a7_0, .int .i64 a7_1] 28 (0, 0))) ∧ Aside0 (wc.heap[k2]? = some (.cells #[.int .i64 a8_0, .int .i64 a8_1, .bool a8_2, .bool a8_3] 30 (0, 0))) ∧ Aside0 (wc.heap[g9]? = some (.cells #[.int .i64 g5, .int .i64 g6, .bool g7, .bool g8] 30 (0, 0))) ∧ Aside0 (wc.heap[e3]? = some (.cells #[.int .i64 h8, .int .i64 h9, .bool i0, .bool i1] 30 (0, 0))) ∧ Aside0 (wc.heap[E8]? = some (.cells #[.int .i64 m4, .int .i64 m5, .bool n9, .bool o0] 30 (0, 0))) ∧ Aside0 (wc.heap[E9]? = some (.cells #[.int .i64 y4, .int .i64 y5, .bool y6, .bool y7] 30 (0, 0))) ∧ Aside0 (Below w.heap.size w wc))
 case first => (
 as_aux_lemma => (
 have H := a36.out
 clear a36
 by_cases a37 : G4 = true
 ·(
 subst a37
 rw [if_pos rfl] at H
 replace H := Option.bind_eq_some_iff.mp H; obtain ⟨⟨bf9, bg0, c78, c79, c80⟩, b37, H⟩ := H; (try dsimp only at H); have c81 := Aside0.mk b37; clear b37
 by_cases a38 : D7 < 0
 ·(
 rw [if_pos a38] at H
 exact fy HT_l H
 )
 rw [if_neg a38] at H
 have ab9 : decide (D7 < 0) = false := decide_eq_false a38
 clear a38
 (first | rw [ab9] | (simp only [i64_w, i32_w]; rw [ab9]) | skip)
 by_cases a39 : c80 = true
 ·(
 subst a39
 rw [if_pos rfl] at H
 by_cases a40 : bf9 = a5
 ·(
 rw [if_pos a40] at H
 obtain ⟨et7, et8⟩ := yE a40
 clear a40
 by_cases a41 : bg0 = a6
 ·(
 rw [if_pos a41] at H
 obtain ⟨et9, eu0⟩ := yE a41
 clear a41
 have H' := Aside0.mk H
 clear H
 have eu1 := d2.out
 have eu2 := d1.out
 have eu3 := o2.out
 have eu4 := o1.out
 have eu5 := G8.out
 have eu6 := G9.out
 have eu7 := k3.out
 have eu8 := k4.out
 have eu9 := s4.out
 have ev0 := s5.out
 have ev1 := u0.out
 have ev2 := u1.out
 have ev3 := z1.out
 have ev4 := z2.out
 have ev5 := m6.out
 have ev6 := m7.out
 have ev7 := v3.out
 have ev8 := v4.out
 obtain ⟨c82, c83, c85, c95⟩ := cf2 a7
 have ev9 := d4.out
 have ew0 := d3.out
 have ew1 := o4.out
 have ew2 := o3.out
 have ew3 := k6.out
 have ew4 := k7.out
 have ew5 := s6.out
 have ew6 := s7.out
 have ew7 := u2.out
 have ew8 := u3.out
 have ew9 := z3.out
 have ex0 := z4.out
 have ex1 := m8.out
 have ex2 := m9.out
 have ex3 := v5.out
 have ex4 := v6.out
 obtain ⟨c97, c98, ca0, ca1, ca2, ca3, ca4, ca5⟩ := cf4 b0
 repeat (go_not_at_region 11; go_not_at_region 17; go_not_at_region 26; go_not_at_region 27; go_not_at_region 42; go_not_at_region 78; go_not_at_region 81; first | ((with_reducible refine gate_callee (f := 26) rfl ?_); refine goesL_ (some 700) rfl rfl Try.func26 kr rfl #[.agg #[.int .i64 a3_0, .int .i64 a3_1], .agg #[.int .i64 a4_0, .int .i64 a4_1, .bool a4_2, .bool a4_3], .int .i64 D7] rfl sM ?_; (with_reducible refine (impl_BeamAfter.calls a3_0 a3_1 a4_0 a4_1 a4_2 a4_3 D7 bf9 bg0 c78 c79 true _ c81.out).mono ?_); rintro e h79 ⟨rfl, hb⟩; refine ⟨_, rfl, ?_⟩; replace a1 := bQ a1 hb; replace a4 := bQ a4 hb; replace a7 := bQ a7 hb; replace b0 := bQ b0 hb; replace a8 := bQ a8 hb; replace b1 := bQ b1 hb; replace b2 := bQ b2 hb; replace b3 := bQ b3 hb; replace c5 := bQ c5 hb; replace d0 := bQ d0 hb; replace HB := Aside0.mk (below_step bB hb); (try clear hb)) | ((with_reducible refine gate_dst (N := 77) rfl ?_); refine box_ (cs := #[.int .i64 0, .int .i64 0, .bool false, .bool false]) (t := 30) fun h35 hg h80 hbox hb => ?_; have bj9 := Aside0.mk (hbox); have h36 := bS HB hg; have h37 := bS HB hg; have ac0 := bL a1 hg; have ac1 := bM a1 hg; have ac2 := bL a4 hg; have ac3 := bM a4 hg; have ac4 := bL a7 hg; have ac5 := bM a7 hg; have ac6 := bL b0 hg; have ac7 := bM b0 hg; have ac8 := bL a8 hg; have ac9 := bM a8 hg; have ad0 := bL b1 hg; have ad1 := bM b1 hg; have ad2 := bL b2 hg; have ad3 := bM b2 hg; have ad4 := bL b3 hg; have ad5 := bM b3 hg; have ad6 := bL c5 hg; have ad7 := bM c5 hg; have ad8 := bL d0 hg; have ad9 := bM d0 hg; replace a1 := bQ a1 hb; replace a4 := bQ a4 hb; replace a7 := bQ a7 hb; replace b0 := bQ b0 hb; replace a8 := bQ a8 hb; replace b1 := bQ b1 hb; replace b2 := bQ b2 hb; replace b3 := bQ b3 hb; replace c5 := bQ c5 hb; replace d0 := bQ d0 hb; replace HB := Aside0.mk (below_step bB hb); clear hb hbox hg; have ex5 := ac1.out; have ex6 := ac0.out; have ex7 := ac3.out; have ex8 := ac2.out; have ex9 := ac5.out; have ey0 := ac4.out; have ey1 := ac7.out; have ey2 := ac6.out; have ey3 := ac9.out; have ey4 := ac8.out; have ey5 := ad1.out; have ey6 := ad0.out; have ey7 := ad3.out; have ey8 := ad2.out; have ey9 := ad5.out; have ez0 := ad4.out; have ez1 := ad7.out; have ez2 := ad6.out; have ez3 := ad9.out; have ez4 := ad8.out; obtain ⟨ca6, ca7, ca8, ca9, cb0, cb1, cb2, cb3⟩ := cf4 bj9) | go_skip | go_guarded | go_step | go_upon)
 go_meet
 case rel => exact ⟨_, H', ⟨laws_FnBeamsGoOfAll.jx⟩, (bA a1), (bA a4), (bA a7), (bA b0), (bA a8), (bA b1), (bA b2), (bA b3), (bA c5), (bA d0), ⟨bB⟩⟩
 )
 rw [if_neg a41] at H
 exact fy HT_l H
 )
 rw [if_neg a40] at H
 exact fy HT_l H
 )
 replace a39 := Bool.eq_false_iff.mpr a39
 subst a39
 rw [if_neg nft] at H
 exact fy HT_l H
 )
 replace a37 := Bool.eq_false_iff.mpr a37
 subst a37
 rw [if_neg nft] at H
 have H' := Aside0.mk H
 clear H
 repeat (go_not_at_region 11; go_not_at_region 17; go_not_at_region 26; go_not_at_region 27; go_not_at_region 42; go_not_at_region 78; go_not_at_region 81; first | go_skip | go_guarded | go_step | go_upon)
 go_meet
 case rel => exact ⟨_, H', ⟨laws_FnBeamsGoOfAll.jx⟩, (bA a1), (bA a4), (bA a7), (bA b0), (bA a8), (bA b1), (bA b2), (bA b3), (bA c5), (bA d0), ⟨bB⟩⟩
 )
 )
 clear a36
 obtain ⟨kq, HA, HJ667, a1, a4, a7, b0, a8, b1, b2, b3, c5, d0, HB⟩ := hcut
 cases kq with
 | zero => exact absurd HA.out (by simp [laws_FnBeamsGoOfAll.j14])
 | succ J6 => (
 as_aux_lemma => (
 have H := HA.out
 clear HA
 simp only [laws_FnBeamsGoOfAll.j14] at H
 by_cases N5 : D8 = true
 ·(
 subst N5
 rw [if_pos rfl] at H
 replace H := Option.bind_eq_some_iff.mp H; obtain ⟨⟨au6, au7⟩, b38, H⟩ := H; (try dsimp only at H); have cb4 := Aside0.mk b38; clear b38
 replace H := Option.bind_eq_some_iff.mp H; obtain ⟨⟨A5, A6, A7, A8, bg1⟩, b39, H⟩ := H; (try dsimp only at H); have cb5 := Aside0.mk b39; clear b39
 have a42 := Aside0.mk H
 clear H
 have ez5 := c3.out
 have ez6 := c2.out
 have ez7 := h7.out
 have ez8 := h6.out
 have ez9 := k4.out
 have g00 := k3.out
 have g01 := k7.out
 have g02 := k6.out
 have g03 := l5.out
 have g04 := l6.out
 have g05 := j1.out
 have g06 := j2.out
 have g07 := k8.out
 have g08 := k9.out
 have g09 := j3.out
 have g10 := j4.out
 have g11 := j5.out
 have g12 := j6.out
 obtain ⟨au8, au9, av0, av1⟩ := cf2 a8
 have g13 := c7.out
 have g14 := c6.out
 have g15 := m1.out
 have g16 := m0.out
 have g17 := s5.out
 have g18 := s4.out
 have g19 := s7.out
 have g20 := s6.out
 have g21 := q0.out
 have g22 := q1.out
 have g23 := u6.out
 have g24 := u7.out
 have g25 := n0.out
 have g26 := n1.out
 have g27 := q4.out
 have g28 := q5.out
 obtain ⟨av2, av3, av4, av5, av6, av7, av8, av9⟩ := cf4 b1
 go_upto_region 72 with (first | ((with_reducible refine gate_callee (f := 15) rfl ?_); refine goesL_ (some 725) rfl rfl Try.func15 kr rfl #[.agg #[.int .i64 a7_0, .int .i64 a7_1], .agg #[.int .i64 a8_0, .int .i64 a8_1, .bool a8_2, .bool a8_3]] rfl sM ?_; (with_reducible refine (impl_StepsToCorner.calls a7_0 a7_1 a8_0 a8_1 a8_2 a8_3 au6 au7 _ cb4.out).mono ?_); rintro e h81 ⟨rfl, hb⟩; refine ⟨_, rfl, ?_⟩; replace a1 := bQ a1 hb; replace a4 := bQ a4 hb; replace a7 := bQ a7 hb; replace b0 := bQ b0 hb; replace a8 := bQ a8 hb; replace b1 := bQ b1 hb; replace b2 := bQ b2 hb; replace b3 := bQ b3 hb; replace c5 := bQ c5 hb; replace d0 := bQ d0 hb; replace HB := Aside0.mk (below_step bB hb); (try clear hb); obtain ⟨aw0, aw1, aw2, aw3⟩ := cf2 a8; obtain ⟨aw4, aw5, aw6, aw7, aw8, aw9, ax0, ax1⟩ := cf4 b1) | ((with_reducible refine gate_callee (f := 26) rfl ?_); refine goesL_ (some 731) rfl rfl Try.func26 kr rfl #[.agg #[.int .i64 a7_0, .int .i64 a7_1], .agg #[.int .i64 a8_0, .int .i64 a8_1, .bool a8_2, .bool a8_3], .int .i64 0] rfl sM ?_; (with_reducible refine (impl_BeamAfter.calls a7_0 a7_1 a8_0 a8_1 a8_2 a8_3 0 A5 A6 A7 A8 bg1 _ cb5.out).mono ?_); rintro e h82 ⟨rfl, hb⟩; refine ⟨_, rfl, ?_⟩; replace a1 := bQ a1 hb; replace a4 := bQ a4 hb; replace a7 := bQ a7 hb; replace b0 := bQ b0 hb; replace a8 := bQ a8 hb; replace b1 := bQ b1 hb; replace b2 := bQ b2 hb; replace b3 := bQ b3 hb; replace c5 := bQ c5 hb; replace d0 := bQ d0 hb; replace HB := Aside0.mk (below_step bB hb); (try clear hb)) | ((with_reducible refine gate_dst (N := 81) rfl ?_); refine box_ (cs := #[.int .i64 0, .int .i64 0, .bool false, .bool false]) (t := 30) fun a43 hg h83 hbox hb => ?_; have h5 := Aside0.mk (hbox); have h38 := bS HB hg; have h39 := bS HB hg; have I2 := bL a1 hg; have I3 := bM a1 hg; have I4 := bL a4 hg; have I5 := bM a4 hg; have I6 := bL a7 hg; have I7 := bM a7 hg; have I8 := bL b0 hg; have I9 := bM b0 hg; have n2 := bL a8 hg; have n3 := bM a8 hg; have A9 := bL b1 hg; have B0 := bM b1 hg; have J0 := bL b2 hg; have J1 := bM b2 hg; have J2 := bL b3 hg; have J3 := bM b3 hg; have q6 := bL c5 hg; have q7 := bM c5 hg; have J4 := bL d0 hg; have J5 := bM d0 hg; replace a1 := bQ a1 hb; replace a4 := bQ a4 hb; replace a7 := bQ a7 hb; replace b0 := bQ b0 hb; replace a8 := bQ a8 hb; replace b1 := bQ b1 hb; replace b2 := bQ b2 hb; replace b3 := bQ b3 hb; replace c5 := bQ c5 hb; replace d0 := bQ d0 hb; replace HB := Aside0.mk (below_step bB hb); clear hb hbox hg; have g29 := I3.out; have g30 := I2.out; have g31 := I5.out; have g32 := I4.out; have g33 := I7.out; have g34 := I6.out; have g35 := I9.out; have g36 := I8.out; have g37 := n3.out; have g38 := n2.out; have g39 := B0.out; have g40 := A9.out; have g41 := J1.out; have g42 := J0.out; have g43 := J3.out; have g44 := J2.out; have g45 := q7.out; have g46 := q6.out; have g47 := J5.out; have g48 := J4.out; obtain ⟨ax2, ax3, ax4, ax5, ax6, ax7, ax8, ax9⟩ := cf4 h5))
 (try simp only [Act.put, List.setIfInBounds_toArray, List.set_cons_zero, List.set_cons_succ])
 go_cut [759] from 759 to 759 (fun cb6 wc => ∃ (kq : Nat) (y9 : Bool), cb6 = .bool y9 ∧ Aside0 (laws_FnBeamsGoOfAll.j15 kq a9 au6 au7 y9 a7_0 a7_1 m4 m5 n9 o0 A5 A6 A7 A8 = some r) ∧ Aside0 (kq ≤ J6) ∧ Aside0 (wc.heap[e9]? = some (.cells #[.int .i64 a0_0, .int .i64 a0_1] 28 (0, 0))) ∧ Aside0 (wc.heap[h2]? = some (.cells #[.int .i64 a1_0, .int .i64 a1_1, .bool a1_2, .bool a1_3] 30 (0, 0))) ∧ Aside0 (wc.heap[k0]? = some (.cells #[.int .i64 a3_0, .int .i64 a3_1] 28 (0, 0))) ∧ Aside0 (wc.heap[k1]? = some (.cells #[.int .i64 a4_0, .int .i64 a4_1, .bool a4_2, .bool a4_3] 30 (0, 0))) ∧ Aside0 (wc.heap[h4]? = some (.cells #[.int .i64 a7_0, .int .i64 a7_1] 28 (0, 0))) ∧ Aside0 (wc.heap[k2]? = some (.cells #[.int .i64 a8_0, .int .i64 a8_1, .bool a8_2, .bool a8_3] 30 (0, 0))) ∧ Aside0 (wc.heap[g9]? = some (.cells #[.int .i64 g5, .int .i64 g6, .bool g7, .bool g8] 30 (0, 0))) ∧ Aside0 (wc.heap[e3]? = some (.cells #[.int .i64 h8, .int .i64 h9, .bool i0, .bool i1] 30 (0, 0))) ∧ Aside0 (wc.heap[E8]? = some (.cells #[.int .i64 m4, .int .i64 m5, .bool n9, .bool o0] 30 (0, 0))) ∧ Aside0 (wc.heap[E9]? = some (.cells #[.int .i64 y4, .int .i64 y5, .bool y6, .bool y7] 30 (0, 0))) ∧ Aside0 (wc.heap[a43]? = some (.cells #[.int .i64 A5, .int .i64 A6, .bool A7, .bool A8] 30 (0, 0))) ∧ Aside0 (Below w.heap.size w wc))
 case first => (
 as_aux_lemma => (
 have H := a42.out
 clear a42
 by_cases a44 : bg1 = true
 ·(
 subst a44
 rw [if_pos rfl] at H
 replace H := Option.bind_eq_some_iff.mp H; obtain ⟨cb7, b40, H⟩ := H; (try dsimp only at H); have cb8 := Aside0.mk b40; clear b40
 by_cases a45 : cb7 = true
 ·(
 subst a45
 rw [if_pos rfl] at H
 replace H := Option.bind_eq_some_iff.mp H; obtain ⟨bg2, b41, H⟩ := H; (try dsimp only at H); have cb9 := Aside0.mk b41; clear b41
 by_cases a46 : bg2 = a9
 ·(
 rw [if_pos a46] at H
 obtain ⟨ae0, g49⟩ := yE a46
 clear a46
 (first | rw [ae0] | (simp only [i64_w, i32_w]; rw [ae0]) | skip)
 replace H := Option.bind_eq_some_iff.mp H; obtain ⟨bg3, b42, H⟩ := H; (try dsimp only at H); have cc0 := Aside0.mk b42; clear b42
 have H' := Aside0.mk H
 clear H
 have g50 := c3.out
 have g51 := c2.out
 have g52 := h7.out
 have g53 := h6.out
 have g54 := k4.out
 have g55 := k3.out
 have g56 := k7.out
 have g57 := k6.out
 have g58 := l5.out
 have g59 := l6.out
 have g60 := j1.out
 have g61 := j2.out
 have g62 := k8.out
 have g63 := k9.out
 have g64 := j3.out
 have g65 := j4.out
 have g66 := j5.out
 have g67 := j6.out
 have g68 := n2.out
 have g69 := n3.out
 obtain ⟨cc1, cc2, cc3, cc4⟩ := cf2 a8
 have g70 := o8.out
 have g71 := o7.out
 have g72 := p0.out
 have g73 := o9.out
 have g74 := m7.out
 have g75 := m6.out
 have g76 := m9.out
 have g77 := m8.out
 have g78 := n1.out
 have g79 := n0.out
 have g80 := p2.out
 have g81 := p1.out
 have g82 := p4.out
 have g83 := p3.out
 have g84 := p5.out
 have g85 := p6.out
 have g86 := q6.out
 have g87 := q7.out
 obtain ⟨cc5, cc6, cc7, cc8, cc9, cd0, cd1, cd2⟩ := cf4 c5
 repeat (go_not_at_region 11; go_not_at_region 17; go_not_at_region 26; go_not_at_region 27; go_not_at_region 42; go_not_at_region 78; go_not_at_region 81; first | (go_at_call 22; (with_reducible refine (impl_IsBeam.calls a7_0 a7_1 m4 m5 n9 o0 true _ cb8.out).mono ?_); rintro e h84 ⟨rfl, hb⟩; dsimp only; replace a1 := bQ a1 hb; replace a4 := bQ a4 hb; replace a7 := bQ a7 hb; replace b0 := bQ b0 hb; replace a8 := bQ a8 hb; replace b1 := bQ b1 hb; replace b2 := bQ b2 hb; replace b3 := bQ b3 hb; replace c5 := bQ c5 hb; replace d0 := bQ d0 hb; replace h5 := (bP (.cells #[.int .i64 A5, .int .i64 A6, .bool A7, .bool A8] 30 (0, 0)) h5 hb); replace HB := Aside0.mk (below_step bB hb); (try clear hb); have g88 := c7.out; have g89 := c6.out; have g90 := m1.out; have g91 := m0.out; have g92 := s5.out; have g93 := s4.out; have g94 := s7.out; have g95 := s6.out; have g96 := q0.out; have g97 := q1.out; have g98 := u6.out; have g99 := u7.out; have ga0 := q4.out; have ga1 := q5.out; have ga2 := A9.out; have ga3 := B0.out; obtain ⟨cd3, cd4, cd5, cd6, cd7, cd8, cd9, ce0⟩ := cf4 b1) | (go_at_call 25; (with_reducible refine (laws_jSize.calls (wrap64 (N3 - a8_0)) bg2 _ cb9.out).mono ?_); rintro e w' ⟨rfl, ⟨nd, rfl⟩⟩; dsimp only) | (go_at_call 25; (with_reducible refine (laws_jSize.calls (wrap64 (N4 - a8_1)) bg3 _ cc0.out).mono ?_); rintro e w' ⟨rfl, ⟨nd, rfl⟩⟩; dsimp only) | go_skip | go_guarded | go_step | go_upon)
 go_meet
 case rel => exact ⟨_, ((bg3 != a9)), sR, H', ⟨laws_FnBeamsGoOfAll.jx⟩, (bA a1), (bA a4), (bA a7), (bA b0), (bA a8), (bA b1), (bA b2), (bA b3), (bA c5), (bA d0), (bA h5), ⟨bB⟩⟩
 )
 rw [if_neg a46] at H
 exact absurd H (by cases J6 <;> simp [laws_FnBeamsGoOfAll.j15, HT_l.out])
 )
 replace a45 := Bool.eq_false_iff.mpr a45
 subst a45
 rw [if_neg nft] at H
 exact absurd H (by cases J6 <;> simp [laws_FnBeamsGoOfAll.j15, HT_l.out])
 )
 replace a44 := Bool.eq_false_iff.mpr a44
 subst a44
 rw [if_neg nft] at H
 exact absurd H (by cases J6 <;> simp [laws_FnBeamsGoOfAll.j15, HT_l.out])
 )
 )
 clear a42
 try clear N5
 try clear au8
 try clear au9
 try clear av2
 try clear av3
 try clear av4
 try clear av5
 try clear aw0
 try clear aw1
 try clear aw4
 try clear aw5
 try clear aw6
 try clear aw7
 try clear ax2
 try clear ax3
 try clear ax4
 try clear ax5
 try clear av0
 try clear av1
 try clear av6
 try clear av7
 try clear av8
 try clear av9
 try clear aw2
 try clear aw3
 try clear aw8
 try clear aw9
 try clear ax0
 try clear ax1
 try clear ax6
 try clear ax7
 try clear ax8
 try clear ax9
 obtain ⟨kq, y9, rfl, HA, HJ709, a1, a4, a7, b0, a8, b1, b2, b3, c5, d0, h5, HB⟩ := hcut
 (try clear ez5); (try clear ez6); (try clear ez7); (try clear ez8); (try clear ez9); (try clear g00); (try clear g01); (try clear g02); (try clear g03); (try clear g04); (try clear g05); (try clear g06); (try clear g07); (try clear g08); (try clear g09); (try clear g10); (try clear g11); (try clear g12); (try clear au8); (try clear au9); (try clear av0); (try clear av1); (try clear g13); (try clear g14); (try clear g15); (try clear g16); (try clear g17); (try clear g18); (try clear g19); (try clear g20); (try clear g21); (try clear g22); (try clear g23); (try clear g24); (try clear g25); (try clear g26); (try clear g27); (try clear g28); (try clear av2); (try clear av3); (try clear av4); (try clear av5); (try clear av6); (try clear av7); (try clear av8); (try clear av9); (try clear aw0); (try clear aw1); (try clear aw2); (try clear aw3); (try clear aw4); (try clear aw5); (try clear aw6); (try clear aw7); (try clear aw8); (try clear aw9); (try clear ax0); (try clear ax1); (try clear ax2); (try clear ax3); (try clear ax4); (try clear ax5); (try clear ax6); (try clear ax7); (try clear ax8); (try clear ax9); (try clear g29); (try clear g30); (try clear g31); (try clear g32); (try clear g33); (try clear g34); (try clear g35); (try clear g36); (try clear g37); (try clear g38); (try clear g39); (try clear g40); (try clear g41); (try clear g42); (try clear g43); (try clear g44); (try clear g45); (try clear g46); (try clear g47); (try clear g48)
 cases kq with
 | zero => exact absurd HA.out (by simp [laws_FnBeamsGoOfAll.j15])
 | succ b43 => (
 as_aux_lemma => (
 have H := HA.out
 clear HA
 simp only [laws_FnBeamsGoOfAll.j15] at H
 by_cases a47 : y9 = true
 ·(
 subst a47
 rw [if_pos rfl] at H
 exact fy HT_l H
 )
 replace a47 := Bool.eq_false_iff.mpr a47
 subst a47
 rw [if_neg nft] at H
 replace H := Option.bind_eq_some_iff.mp H; obtain ⟨⟨a48, D9, ce1⟩, b44, H⟩ := H; (try dsimp only at H); have ce2 := Aside0.mk b44; clear b44
 by_cases N6 : ce1 = true
 ·(
 subst N6
 rw [if_pos rfl] at H
 have a49 := Aside0.mk H
 clear H
 have ga4 := c3.out
 have ga5 := c2.out
 have ga6 := h7.out
 have ga7 := h6.out
 have ga8 := k4.out
 have ga9 := k3.out
 have gb0 := k7.out
 have gb1 := k6.out
 have gb2 := l5.out
 have gb3 := l6.out
 have gb4 := j1.out
 have gb5 := j2.out
 have gb6 := k8.out
 have gb7 := k9.out
 have gb8 := j3.out
 have gb9 := j4.out
 have gc0 := j5.out
 have gc1 := j6.out
 have gc2 := n2.out
 have gc3 := n3.out
 obtain ⟨ay0, ay1, ay2, ay3⟩ := cf2 a8
 have gc4 := I3.out
 have gc5 := I2.out
 have gc6 := I5.out
 have gc7 := I4.out
 have gc8 := I7.out
 have gc9 := I6.out
 have gd0 := I9.out
 have gd1 := I8.out
 have gd2 := B0.out
 have gd3 := A9.out
 have gd4 := J1.out
 have gd5 := J0.out
 have gd6 := J3.out
 have gd7 := J2.out
 have gd8 := q7.out
 have gd9 := q6.out
 have ge0 := J5.out
 have ge1 := J4.out
 obtain ⟨ay4, ay5, ay6, ay7, ay8, ay9, az0, az1⟩ := cf4 h5
 go_upto_region 77 with (first | ((with_reducible refine gate_callee (f := 32) rfl ?_); refine goesL_ (some 764) rfl rfl Try.func32 kr rfl #[.agg #[.int .i64 a7_0, .int .i64 a7_1], .agg #[.int .i64 A5, .int .i64 A6, .bool A7, .bool A8], .int .i64 a9] rfl sM ?_; (with_reducible refine (impl_UnfoldedPlace.calls b43 a7_0 a7_1 A5 A6 A7 A8 a9 a48 D9 true _ ce2.out).mono ?_); rintro e h85 ⟨rfl, hb⟩; refine ⟨_, rfl, ?_⟩; replace a1 := bQ a1 hb; replace a4 := bQ a4 hb; replace a7 := bQ a7 hb; replace b0 := bQ b0 hb; replace a8 := bQ a8 hb; replace b1 := bQ b1 hb; replace b2 := bQ b2 hb; replace b3 := bQ b3 hb; replace c5 := bQ c5 hb; replace d0 := bQ d0 hb; replace h5 := bQ h5 hb; replace HB := Aside0.mk (below_step bB hb); (try clear hb)))
 (try simp only [Act.put, List.setIfInBounds_toArray, List.set_cons_zero, List.set_cons_succ])
 go_cut [776] from 776 to 776 (fun ce3 wc => ∃ (kq : Nat) (z0 : Bool), ce3 = .bool z0 ∧ Aside0 (laws_FnBeamsGoOfAll.j16 kq a48 D9 z0 a7_0 a7_1 m4 m5 n9 o0 = some r) ∧ Aside0 (kq ≤ b43) ∧ Aside0 (wc.heap[e9]? = some (.cells #[.int .i64 a0_0, .int .i64 a0_1] 28 (0, 0))) ∧ Aside0 (wc.heap[h2]? = some (.cells #[.int .i64 a1_0, .int .i64 a1_1, .bool a1_2, .bool a1_3] 30 (0, 0))) ∧ Aside0 (wc.heap[k0]? = some (.cells #[.int .i64 a3_0, .int .i64 a3_1] 28 (0, 0))) ∧ Aside0 (wc.heap[k1]? = some (.cells #[.int .i64 a4_0, .int .i64 a4_1, .bool a4_2, .bool a4_3] 30 (0, 0))) ∧ Aside0 (wc.heap[h4]? = some (.cells #[.int .i64 a7_0, .int .i64 a7_1] 28 (0, 0))) ∧ Aside0 (wc.heap[k2]? = some (.cells #[.int .i64 a8_0, .int .i64 a8_1, .bool a8_2, .bool a8_3] 30 (0, 0))) ∧ Aside0 (wc.heap[g9]? = some (.cells #[.int .i64 g5, .int .i64 g6, .bool g7, .bool g8] 30 (0, 0))) ∧ Aside0 (wc.heap[e3]? = some (.cells #[.int .i64 h8, .int .i64 h9, .bool i0, .bool i1] 30 (0, 0))) ∧ Aside0 (wc.heap[E8]? = some (.cells #[.int .i64 m4, .int .i64 m5, .bool n9, .bool o0] 30 (0, 0))) ∧ Aside0 (wc.heap[E9]? = some (.cells #[.int .i64 y4, .int .i64 y5, .bool y6, .bool y7] 30 (0, 0))) ∧ Aside0 (wc.heap[a43]? = some (.cells #[.int .i64 A5, .int .i64 A6, .bool A7, .bool A8] 30 (0, 0))) ∧ Aside0 (Below w.heap.size w wc))
 case first => (
 as_aux_lemma => (
 have H := a49.out
 clear a49
 by_cases a50 : au7 = true
 ·(
 subst a50
 rw [if_pos rfl] at H
 have H' := Aside0.mk H
 clear H
 repeat (go_not_at_region 11; go_not_at_region 17; go_not_at_region 26; go_not_at_region 27; go_not_at_region 42; go_not_at_region 78; go_not_at_region 81; first | go_skip | go_guarded | go_step | go_upon)
 go_meet
 case rel => exact ⟨_, (decide (a9 ≤ au6)), sR, H', ⟨laws_FnBeamsGoOfAll.jx⟩, (bA a1), (bA a4), (bA a7), (bA b0), (bA a8), (bA b1), (bA b2), (bA b3), (bA c5), (bA d0), (bA h5), ⟨bB⟩⟩
 )
 replace a50 := Bool.eq_false_iff.mpr a50
 subst a50
 rw [if_neg nft] at H
 have H' := Aside0.mk H
 clear H
 repeat (go_not_at_region 11; go_not_at_region 17; go_not_at_region 26; go_not_at_region 27; go_not_at_region 42; go_not_at_region 78; go_not_at_region 81; first | go_skip | go_guarded | go_step | go_upon)
 go_meet
 case rel => exact ⟨_, (true), sR, H', ⟨laws_FnBeamsGoOfAll.jx⟩, (bA a1), (bA a4), (bA a7), (bA b0), (bA a8), (bA b1), (bA b2), (bA b3), (bA c5), (bA d0), (bA h5), ⟨bB⟩⟩
 )
 )
 clear a49
 try clear N6
 try clear ay0
 try clear ay1
 try clear ay4
 try clear ay5
 try clear ay6
 try clear ay7
 try clear ay2
 try clear ay3
 try clear ay8
 try clear ay9
 try clear az0
 try clear az1
 obtain ⟨kq, z0, rfl, HA, HJ785, a1, a4, a7, b0, a8, b1, b2, b3, c5, d0, h5, HB⟩ := hcut
 (try clear ga4); (try clear ga5); (try clear ga6); (try clear ga7); (try clear ga8); (try clear ga9); (try clear gb0); (try clear gb1); (try clear gb2); (try clear gb3); (try clear gb4); (try clear gb5); (try clear gb6); (try clear gb7); (try clear gb8); (try clear gb9); (try clear gc0); (try clear gc1); (try clear gc2); (try clear gc3); (try clear ay0); (try clear ay1); (try clear ay2); (try clear ay3); (try clear gc4); (try clear gc5); (try clear gc6); (try clear gc7); (try clear gc8); (try clear gc9); (try clear gd0); (try clear gd1); (try clear gd2); (try clear gd3); (try clear gd4); (try clear gd5); (try clear gd6); (try clear gd7); (try clear gd8); (try clear gd9); (try clear ge0); (try clear ge1); (try clear ay4); (try clear ay5); (try clear ay6); (try clear ay7); (try clear ay8); (try clear ay9); (try clear az0); (try clear az1)
 cases kq with
 | zero => exact absurd HA.out (by simp [laws_FnBeamsGoOfAll.j16])
 | succ bk0 => (
 as_aux_lemma => (
 have H := HA.out
 clear HA
 simp only [laws_FnBeamsGoOfAll.j16] at H
 by_cases N7 : z0 = true
 ·(
 subst N7
 rw [if_pos rfl] at H
 replace H := Option.bind_eq_some_iff.mp H; obtain ⟨G5, b45, H⟩ := H; (try dsimp only at H); have ce4 := Aside0.mk b45; clear b45
 by_cases a51 : (wrap64 (2 * a7_0)) = 0
 ·(
 rw [if_pos a51] at H
 exact absurd H (by simp)
 )
 rw [if_neg a51] at H
 obtain ⟨bg4, bg5⟩ := nE a51
 have a52 := Aside0.mk H
 clear H
 repeat (go_not_at_region 11; go_not_at_region 17; go_not_at_region 26; go_not_at_region 27; go_not_at_region 42; go_not_at_region 78; go_not_at_region 81; first | go_skip | go_guarded | go_step | go_upon)
 replace a1 := bD1 a1
 replace a4 := bD1 a4
 replace a7 := bD1 a7
 replace b0 := bD1 b0
 replace a8 := bD1 a8
 replace b1 := bD1 b1
 replace b2 := bD1 b2
 replace b3 := bD1 b3
 replace c5 := bD1 c5
 replace d0 := bD1 d0
 replace h5 := bD1 h5
 replace HB := Aside0.mk (below_drew1 HB.out)
 refine st0_ 7 laws_FnBeamsGoOfAll.pl14 (S := fun w' => w'.cell? ⟨h4, 0, none⟩ = some (.int .i64 a7_0) ∧ w'.cell? ⟨h4, 1, none⟩ = some (.int .i64 a7_1)) (ds := []) cS (fun hHeld HT_ HW_ => ?_)
 generalize wc.drew = h86 at a1 a4 a7 b0 a8 b1 b2 b3 c5 d0 h5 HB hHeld ⊢
 iterate 4 (first | refine qA HT_ ?_ | refine qU HT_ hHeld ?_)
 refine pO HT_ fun K hK => ?_
 refine goes_ Try.func25 kr rfl #[.int .i64 a48] (by rfl) rfl rfl sM ?_
 with_reducible refine (laws_jSize.calls a48 G5 _ ce4.out).mono ?_
 rintro e w' ⟨rfl, ⟨nd, rfl⟩⟩
 refine ⟨_, rfl, ?_⟩
 refine hK.out _ _ cS (fun hHeld => ?_)
 clear hK K
 refine nP ?_
 iterate 2 refine qA HT_ ?_
 refine pD HT_ ?_
 have ge2 := c3.out
 have ge3 := c2.out
 have ge4 := h7.out
 have ge5 := h6.out
 have ge6 := k4.out
 have ge7 := k3.out
 have ge8 := k7.out
 have ge9 := k6.out
 have gf0 := l5.out
 have gf1 := l6.out
 have gf2 := j1.out
 have gf3 := j2.out
 have gf4 := k8.out
 have gf5 := k9.out
 have gf6 := j3.out
 have gf7 := j4.out
 have gf8 := j5.out
 have gf9 := j6.out
 have gg0 := n2.out
 have gg1 := n3.out
 obtain ⟨az2, az3, az4, az5⟩ := cf2 a8
 repeat (go_not_at_if 786; first | go_skip | go_guarded | go_step | go_upon)
 go_cut [83, 786] from 83 to 83 (fun v83 h87 wc => ∃ (kq : Nat) (x7 : Int), v83 = .int .i64 x7 ∧ Aside0 (laws_FnBeamsGoOfAll.j17 kq x7 D9 a7_0 a7_1 m4 m5 n9 o0 = some r) ∧ Aside0 (kq ≤ bk0) ∧ Aside0 (wc.heap[e9]? = some (.cells #[.int .i64 a0_0, .int .i64 a0_1] 28 (0, 0))) ∧ Aside0 (wc.heap[h2]? = some (.cells #[.int .i64 a1_0, .int .i64 a1_1, .bool a1_2, .bool a1_3] 30 (0, 0))) ∧ Aside0 (wc.heap[k0]? = some (.cells #[.int .i64 a3_0, .int .i64 a3_1] 28 (0, 0))) ∧ Aside0 (wc.heap[k1]? = some (.cells #[.int .i64 a4_0, .int .i64 a4_1, .bool a4_2, .bool a4_3] 30 (0, 0))) ∧ Aside0 (wc.heap[h4]? = some (.cells #[.int .i64 a7_0, .int .i64 a7_1] 28 (0, 0))) ∧ Aside0 (wc.heap[k2]? = some (.cells #[.int .i64 a8_0, .int .i64 a8_1, .bool a8_2, .bool a8_3] 30 (0, 0))) ∧ Aside0 (wc.heap[g9]? = some (.cells #[.int .i64 g5, .int .i64 g6, .bool g7, .bool g8] 30 (0, 0))) ∧ Aside0 (wc.heap[e3]? = some (.cells #[.int .i64 h8, .int .i64 h9, .bool i0, .bool i1] 30 (0, 0))) ∧ Aside0 (wc.heap[E8]? = some (.cells #[.int .i64 m4, .int .i64 m5, .bool n9, .bool o0] 30 (0, 0))) ∧ Aside0 (wc.heap[E9]? = some (.cells #[.int .i64 y4, .int .i64 y5, .bool y6, .bool y7] 30 (0, 0))) ∧ Aside0 (wc.heap[a43]? = some (.cells #[.int .i64 A5, .int .i64 A6, .bool A7, .bool A8] 30 (0, 0))) ∧ Aside0 (Below w.heap.size w wc))
 case first => (
 as_aux_lemma => (
 have H := a52.out
 clear a52
 by_cases G6 : (Int.tmod G5 (wrap64 (2 * a7_0))) > a7_0
 ·(
 rw [if_pos G6] at H
 have B1 : decide (a7_0 < (Int.tmod G5 (wrap64 (2 * a7_0)))) = true := decide_eq_true G6
 clear G6
 (first | rw [B1] | (simp only [i64_w, i32_w]; rw [B1]) | skip)
 have H' := Aside0.mk H
 clear H
 have gg3 := c3.out
 have gg4 := c2.out
 have gg5 := h7.out
 have gg6 := h6.out
 have gg7 := k4.out
 have gg8 := k3.out
 have gg9 := k7.out
 have gh0 := k6.out
 have gh1 := l5.out
 have gh2 := l6.out
 have gh3 := j1.out
 have gh4 := j2.out
 have gh5 := k8.out
 have gh6 := k9.out
 have gh7 := j3.out
 have gh8 := j4.out
 have gh9 := j5.out
 have gi0 := j6.out
 have gi1 := n2.out
 have gi2 := n3.out
 obtain ⟨ce5, ce6, ce7, ce8⟩ := cf2 a8
 repeat (go_not_at_region 11; go_not_at_region 17; go_not_at_region 26; go_not_at_region 27; go_not_at_region 42; go_not_at_region 78; go_not_at_region 81; first | go_skip | go_guarded | go_step | go_upon)
 go_meet
 case rel => exact ⟨_, (wrap64 ((wrap64 (2 * a7_0)) - (Int.tmod G5 (wrap64 (2 * a7_0))))), sR, H', ⟨laws_FnBeamsGoOfAll.jx⟩, (bA a1), (bA a4), (bA a7), (bA b0), (bA a8), (bA b1), (bA b2), (bA b3), (bA c5), (bA d0), (bA h5), ⟨bB⟩⟩
 )
 rw [if_neg G6] at H
 have B1 : decide (a7_0 < (Int.tmod G5 (wrap64 (2 * a7_0)))) = false := decide_eq_false G6
 clear G6
 (first | rw [B1] | (simp only [i64_w, i32_w]; rw [B1]) | skip)
 have H' := Aside0.mk H
 clear H
 repeat (go_not_at_region 11; go_not_at_region 17; go_not_at_region 26; go_not_at_region 27; go_not_at_region 42; go_not_at_region 78; go_not_at_region 81; first | go_skip | go_guarded | go_step | go_upon)
 go_meet
 case rel => exact ⟨_, (Int.tmod G5 (wrap64 (2 * a7_0))), sR, H', ⟨laws_FnBeamsGoOfAll.jx⟩, (bA a1), (bA a4), (bA a7), (bA b0), (bA a8), (bA b1), (bA b2), (bA b3), (bA c5), (bA d0), (bA h5), ⟨bB⟩⟩
 )
 )
 clear a52
 try clear N7
 try clear a51
 try clear bg4
 try clear bg5
 try clear az2
 try clear az3
 try clear az4
 try clear az5
 obtain ⟨kq, x7, rfl, HA, HJ812, a1, a4, a7, b0, a8, b1, b2, b3, c5, d0, h5, HB⟩ := hcut
 (try clear ge2); (try clear ge3); (try clear ge4); (try clear ge5); (try clear ge6); (try clear ge7); (try clear ge8); (try clear ge9); (try clear gf0); (try clear gf1); (try clear gf2); (try clear gf3); (try clear gf4); (try clear gf5); (try clear gf6); (try clear gf7); (try clear gf8); (try clear gf9); (try clear gg0); (try clear gg1); (try clear az2); (try clear az3); (try clear az4); (try clear az5)
 cases kq with
 | zero => exact absurd HA.out (by simp [laws_FnBeamsGoOfAll.j17])
 | succ h40 => (
 as_aux_lemma => (
 have H := HA.out
 clear HA
 simp only [laws_FnBeamsGoOfAll.j17] at H
 replace H := Option.bind_eq_some_iff.mp H; obtain ⟨E0, b46, H⟩ := H; (try dsimp only at H); have bg6 := Aside0.mk b46; clear b46
 by_cases az6 : (wrap64 (2 * a7_1)) = 0
 ·(
 rw [if_pos az6] at H
 exact absurd H (by simp)
 )
 rw [if_neg az6] at H
 obtain ⟨gi3, gi4⟩ := nE az6
 by_cases G7 : (Int.tmod E0 (wrap64 (2 * a7_1))) > a7_1
 ·(
 rw [if_pos G7] at H
 have bg7 : decide (a7_1 < (Int.tmod E0 (wrap64 (2 * a7_1)))) = true := decide_eq_true G7
 clear G7
 by_cases a53 : m4 = x7
 ·(
 rw [if_pos a53] at H
 obtain ⟨gi5, gi6⟩ := yE a53
 clear a53
 by_cases a54 : m5 = (wrap64 ((wrap64 (2 * a7_1)) - (Int.tmod E0 (wrap64 (2 * a7_1)))))
 ·(
 rw [if_pos a54] at H
 obtain ⟨gi7, gi8⟩ := yE a54
 clear a54
 obtain rfl := Option.some.inj H
 repeat (go_not_at_region 11; go_not_at_region 17; go_not_at_region 26; go_not_at_region 27; go_not_at_region 42; go_not_at_region 78; go_not_at_region 81; first | go_skip | go_guarded | go_step | go_upon)
 replace a1 := bD1 a1
 replace a4 := bD1 a4
 replace a7 := bD1 a7
 replace b0 := bD1 b0
 replace a8 := bD1 a8
 replace b1 := bD1 b1
 replace b2 := bD1 b2
 replace b3 := bD1 b3
 replace c5 := bD1 c5
 replace d0 := bD1 d0
 replace h5 := bD1 h5
 replace HB := Aside0.mk (below_drew1 HB.out)
 refine st0_ 7 laws_FnBeamsGoOfAll.pl13 (S := fun w' => w'.cell? ⟨h4, 0, none⟩ = some (.int .i64 a7_0) ∧ w'.cell? ⟨h4, 1, none⟩ = some (.int .i64 a7_1)) (ds := []) cS (fun hHeld HT_ HW_ => ?_)
 generalize wc.drew = h88 at a1 a4 a7 b0 a8 b1 b2 b3 c5 d0 h5 HB hHeld ⊢
 iterate 4 (first | refine qA HT_ ?_ | refine qU HT_ hHeld ?_)
 refine pO HT_ fun K hK => ?_
 refine goes_ Try.func25 kr rfl #[.int .i64 D9] (by rfl) rfl rfl sM ?_
 with_reducible refine (laws_jSize.calls D9 E0 _ bg6.out).mono ?_
 rintro e w' ⟨rfl, ⟨nd, rfl⟩⟩
 refine ⟨_, rfl, ?_⟩
 refine hK.out _ _ cS (fun hHeld => ?_)
 clear hK K
 refine nP ?_
 iterate 2 refine qA HT_ ?_
 refine pD HT_ ?_
 have gi9 := c3.out
 have gj0 := c2.out
 have gj1 := h7.out
 have gj2 := h6.out
 have gj3 := k4.out
 have gj4 := k3.out
 have gj5 := k7.out
 have gj6 := k6.out
 have gj7 := l5.out
 have gj8 := l6.out
 have gj9 := j1.out
 have gk0 := j2.out
 have gk1 := k8.out
 have gk2 := k9.out
 have gk3 := j3.out
 have gk4 := j4.out
 have gk5 := j5.out
 have gk6 := j6.out
 have gk7 := n2.out
 have gk8 := n3.out
 obtain ⟨ce9, cf0, cf1, cf3⟩ := cf2 a8
 have gk9 := o8.out
 have gl0 := o7.out
 have gl1 := p0.out
 have gl2 := o9.out
 have gl3 := m7.out
 have gl4 := m6.out
 have gl5 := m9.out
 have gl6 := m8.out
 have gl7 := n1.out
 have gl8 := n0.out
 have gl9 := p2.out
 have gm0 := p1.out
 have gm1 := p4.out
 have gm2 := p3.out
 have gm3 := p5.out
 have gm4 := p6.out
 have gm5 := q6.out
 have gm6 := q7.out
 obtain ⟨cf5, cf6, cf7, cf8, cf9, cg0, cg1, cg2⟩ := cf4 c5
 repeat (go_not_at_region 11; go_not_at_region 17; go_not_at_region 26; go_not_at_region 27; go_not_at_region 42; go_not_at_region 78; go_not_at_region 81; first | go_skip | go_guarded | go_step | go_upon)
 go_ret
 exact ⟨sE, bI⟩
 )
 rw [if_neg a54] at H
 exact fy HT_l H
 )
 rw [if_neg a53] at H
 exact fy HT_l H
 )
 rw [if_neg G7] at H
 have bg7 : decide (a7_1 < (Int.tmod E0 (wrap64 (2 * a7_1)))) = false := decide_eq_false G7
 clear G7
 by_cases a55 : m4 = x7
 ·(
 rw [if_pos a55] at H
 obtain ⟨gm7, gm8⟩ := yE a55
 clear a55
 by_cases a56 : m5 = (Int.tmod E0 (wrap64 (2 * a7_1)))
 ·(
 rw [if_pos a56] at H
 obtain ⟨gm9, gn0⟩ := yE a56
 clear a56
 obtain rfl := Option.some.inj H
 repeat (go_not_at_region 11; go_not_at_region 17; go_not_at_region 26; go_not_at_region 27; go_not_at_region 42; go_not_at_region 78; go_not_at_region 81; first | go_skip | go_guarded | go_step | go_upon)
 replace a1 := bD1 a1
 replace a4 := bD1 a4
 replace a7 := bD1 a7
 replace b0 := bD1 b0
 replace a8 := bD1 a8
 replace b1 := bD1 b1
 replace b2 := bD1 b2
 replace b3 := bD1 b3
 replace c5 := bD1 c5
 replace d0 := bD1 d0
 replace h5 := bD1 h5
 replace HB := Aside0.mk (below_drew1 HB.out)
 refine st0_ 7 laws_FnBeamsGoOfAll.pl13 (S := fun w' => w'.cell? ⟨h4, 0, none⟩ = some (.int .i64 a7_0) ∧ w'.cell? ⟨h4, 1, none⟩ = some (.int .i64 a7_1)) (ds := []) cS (fun hHeld HT_ HW_ => ?_)
 generalize wc.drew = h89 at a1 a4 a7 b0 a8 b1 b2 b3 c5 d0 h5 HB hHeld ⊢
 iterate 4 (first | refine qA HT_ ?_ | refine qU HT_ hHeld ?_)
 refine pO HT_ fun K hK => ?_
 refine goes_ Try.func25 kr rfl #[.int .i64 D9] (by rfl) rfl rfl sM ?_
 with_reducible refine (laws_jSize.calls D9 E0 _ bg6.out).mono ?_
 rintro e w' ⟨rfl, ⟨nd, rfl⟩⟩
 refine ⟨_, rfl, ?_⟩
 refine hK.out _ _ cS (fun hHeld => ?_)
 clear hK K
 refine nP ?_
 iterate 2 refine qA HT_ ?_
 refine pD HT_ ?_
 have gn1 := c3.out
 have gn2 := c2.out
 have gn3 := h7.out
 have gn4 := h6.out
 have gn5 := k4.out
 have gn6 := k3.out
 have gn7 := k7.out
 have gn8 := k6.out
 have gn9 := l5.out
 have go0 := l6.out
 have go1 := j1.out
 have go2 := j2.out
 have go3 := k8.out
 have go4 := k9.out
 have go5 := j3.out
 have go6 := j4.out
 have go7 := j5.out
 have go8 := j6.out
 have go9 := n2.out
 have gp0 := n3.out
 obtain ⟨cg3, cg4, cg5, cg6⟩ := cf2 a8
 have gp1 := o8.out
 have gp2 := o7.out
 have gp3 := p0.out
 have gp4 := o9.out
 have gp5 := m7.out
 have gp6 := m6.out
 have gp7 := m9.out
 have gp8 := m8.out
 have gp9 := n1.out
 have gq0 := n0.out
 have gq1 := p2.out
 have gq2 := p1.out
 have gq3 := p4.out
 have gq4 := p3.out
 have gq5 := p5.out
 have gq6 := p6.out
 have gq7 := q6.out
 have gq8 := q7.out
 obtain ⟨cg7, cg8, cg9, ch0, ch1, ch2, ch3, ch4⟩ := cf4 c5
 repeat (go_not_at_region 11; go_not_at_region 17; go_not_at_region 26; go_not_at_region 27; go_not_at_region 42; go_not_at_region 78; go_not_at_region 81; first | go_skip | go_guarded | go_step | go_upon)
 go_ret
 exact ⟨sE, bI⟩
 )
 rw [if_neg a56] at H
 exact fy HT_l H
 )
 rw [if_neg a55] at H
 exact fy HT_l H
 )
 )
 )
 replace N7 := Bool.eq_false_iff.mpr N7
 subst N7
 rw [if_neg nft] at H
 obtain rfl := Option.some.inj H
 repeat (go_not_at_region 11; go_not_at_region 17; go_not_at_region 26; go_not_at_region 27; go_not_at_region 42; go_not_at_region 78; go_not_at_region 81; first | go_skip | go_guarded | go_step | go_upon)
 go_ret
 exact ⟨sE, bI⟩
 )
 )
 )
 replace N6 := Bool.eq_false_iff.mpr N6
 subst N6
 rw [if_neg nft] at H
 exact fy HT_l H
 )
 )
 )
 replace N5 := Bool.eq_false_iff.mpr N5
 subst N5
 rw [if_neg nft] at H
 obtain rfl := Option.some.inj H
 repeat (go_not_at_region 11; go_not_at_region 17; go_not_at_region 26; go_not_at_region 27; go_not_at_region 42; go_not_at_region 78; go_not_at_region 81; first | go_skip | go_guarded | go_step | go_upon)
 go_ret
 exact ⟨sE, bI⟩
 )
 )
 )
 )
 )
 )
 )
 )
 )
 )
end Go.Proofs.Ythfbjofmcniogaa.PFnBeamsGoOfAll
