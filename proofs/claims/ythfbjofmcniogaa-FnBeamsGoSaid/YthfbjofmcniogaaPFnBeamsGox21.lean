-- Written by split3.py: the law's walk behind cut 2.
import Derived.Test.YthfbjofmcniogaaVN
import Derived.Test.YthfbjofmcniogaaVG
import Derived.Test.YthfbjofmcniogaaVR
import Derived.Test.YthfbjofmcniogaaPFnBeamsGox0
import Derived.Test.YthfbjofmcniogaaPFnBeamsGox1
import Derived.Test.YthfbjofmcniogaaPFnBeamsGox6
import Derived.Test.YthfbjofmcniogaaPFnBeamsGox9
import Derived.Test.YthfbjofmcniogaaPFnBeamsGox10
import Derived.Test.YthfbjofmcniogaaPFnBeamsGox11
import Derived.Test.YthfbjofmcniogaaPFnBeamsGox12
import Derived.Test.YthfbjofmcniogaaPFnBeamsGox13
import Derived.Test.YthfbjofmcniogaaPFnBeamsGox14
import Derived.Test.YthfbjofmcniogaaPFnBeamsGox15
import Derived.Test.YthfbjofmcniogaaPFnBeamsGox16
import Derived.Test.YthfbjofmcniogaaPFnBeamsGox18
import Derived.Test.YthfbjofmcniogaaPFnBeamsGox19
import Derived.Test.YthfbjofmcniogaaPFnBeamsGox20
namespace Go.Proofs.Ythfbjofmcniogaa.PFnBeamsGo
open Go.Proofs.YthfbjofmcniogaaV Go.RowKit Go.Proofs.YthfbjofmcniogaaW.PrintWords Go.Proofs.YthfbjofmcniogaaW.PrintLast Go.Proofs.YthfbjofmcniogaaW.PrintMore
attribute [local go_sem] max2_int min2_int max_two min_two max_three min_three max_four min_four   -- for this text's walks alone
attribute [local go_sem ↓] rdl_zero rdl_succ eval_lit
set_option linter.unusedVariables false
set_option linter.unusedSimpArgs false
attribute [local go_sem high] eqA30
/-- The world by a name. -/
theorem nmW {P : Program} {ops : Array Oper} {Q : Exit → Act → World → Prop} {rest : List Oper} {a : Act} {W : World} (h : ∀ W_, W = W_ → wpList P ops Q rest a W_) : wpList P ops Q rest a W := h W rfl
set_option maxHeartbeats 100000000 in
set_option maxRecDepth 100000 in
theorem laws_FnBeamsGo.rest2 : laws_FnBeamsGo.RestSaid2 := by
 intro k A0 c0 l0 A1 c1 l1 r w b9 b6 c7 c8 c9 d0 q4 a2 E8 T9 b67 o8 o9 b68 b69 k9 n1 b71 b72 l2 m3 b75 b76 g6 g7 g8 g9 ae7 h7 h8 h9 i0 b79 e8 h4 E9 b81 h0 e2 u151 u152 u153 u154 u155 u156 u157 u158 u159 u160 u161 u162 u163 u164 u165 u166 u167 u168 u169 u170 u171 u172 u173 u174 u175 u176 u177 u178 u179 u180 u181 u182 u183 u184 u185 u186 u187 u188 u189 u190 u191 u192 u193 u194 u195 u196 u197 u198 u199 u200 u201 u202 u203 u204 u205 u206 u207 u208 u209 u210 u211 u212 u213 u214 u215 u216 u217 u218 u219 u220 u221 u222 u223 u224 u225 u226 u227 u228 u229 u230 u231 u232 u233 u234 u235 u236 u237 u238 u239 u240 u241 u242 u243 u244 u245 u246 u247 u248 u249 u250 u251 u252 u253 u254 u255 u256 u257 b92 wc u4 u28 u29 u30 u31 u32 u33 u34 u35 u36 u37 u38 u39 u259 u260 u261 u262 u263 u264 u265 u266 u267 u268 u269 u270 u271 u272 u273 u274 u275 u276 u277 u278 u279 u280 u281 u282 u283 u284 u285 u286 u287 u288 u289 u290 u291 u292 u293 u294 u295 u296 u297 u298 u299 u300 u301 u302 u303 u304 u305 u306 u307 u308 u309 u310 u311 u312 u313 u314 u315 u316 u317 u318 u319 u320 u321 u322 u323 u324 u325 u326 u327 u328 u329 u330 u331 u332 u333 u334 u335 u336 u337 u338 u339 u340 u341 u342 u343 u344 u345 u346 u347 u348 u349 u350 u351 u352 u353 u354 u355 u356 u357 u358 u359 u360 u361 u362 u363 u364 u365 u366 u367 u368 u369 u370 u371 u372 u373 u374 u375 u376 u377 u378 u379 u380 u381 u382 u383 u384 u385 u386 u387 u388 u389 u390 u391 u392 u393 u394 u395 u396 u397 u398 u399 u400 u401 u402 u403 u404 u405 u406 u407 u408 u409 u410 u411 u412 u413 u414 u415 u416 u417 u418 u419 u420 u421 u422 u423 u424 u425 u426 u427 u428 u429 u430 u431 u432 u433 u434 u435 u436 u437 u438 u439 u440 u441 u442 u443 u444 u445 u446 u447 u448 u449 u450 u451 u452 u453 u454 u455 u456 u457 u458 u459 u460 u461 u462 u463 u464 u465 u466 u467 u468 u469 u470 u471 u472 u473 u474 u475 u476 u477 u478 u479 u480 u481 u482 u483 u484 u485 u486 u487 u488 u489 u490 u491 u492 u493 u494 u495 u496 u497 u498 u499 u500 u501 u502 u503 u504 u505 u506 u507 u508 u509 u510 u511 u512 u513 u514 u515 u516 kq HR0 HC0 HR1 HC1 HT_l A3 A5 A6 A7 A8 A9 A10 A11 A12 A13 A14 A15 g55 g56 g57 g58 d5 d6 g61 g62 d8 d9 uz3 uz4 g67 g68 e0 e1 uz5 uz6 K0 K1 HJ15 HA HJ128 a3 a5 a6 a7 HB
 conv => enter [2]; whnf
 have gf8 := Try.underlying28
 have gf9 := Try.underlying30
 cases kq with
 | zero => exact absurd HA.out (by simp [laws_FnBeamsGo.j10])
 | succ bk6 => (
 as_aux_lemma => (
 have H := HA.out
 clear HA
 simp only [laws_FnBeamsGo.j10] at H
 have a34 := Aside0.mk H
 clear H
 repeat (go_not_at_if 517; first | go_skip | go_guarded | go_step | go_upon)
 go_cut [517] from 517 to 517 (fun gh3 wc => ∃ (kq : Nat), Aside0 (laws_FnBeamsGo.j11 kq l1 k9 n1 l2 b9 b6 c7 c8 c9 d0 = some r) ∧ Aside0 (kq ≤ bk6) ∧ Aside0 (wc.heap[e8]? = some (.cells #[.int .i64 b9, .int .i64 b6] 28 (0, 0))) ∧ Aside0 (wc.heap[h4]? = some (.cells #[.int .i64 c7, .int .i64 c8, .bool c9, .bool d0] 30 (0, 0))) ∧ Aside0 (wc.heap[h0]? = some (.cells #[.int .i64 g6, .int .i64 g7, .bool g8, .bool g9] 30 (0, 0))) ∧ Aside0 (wc.heap[e2]? = some (.cells #[.int .i64 h7, .int .i64 h8, .bool h9, .bool i0] 30 (0, 0))) ∧ Aside0 (Below w.heap.size w wc))
 case first => (
 as_aux_lemma => (
 have H := a34.out
 clear a34
 by_cases a35 : m3 = true
 ·(
 subst a35
 rw [if_pos rfl] at H
 replace H := Option.bind_eq_some_iff.mp H; obtain ⟨⟨aj0, aj1, aj2, aj3, bx3⟩, b40, H⟩ := H; (try dsimp only at H); have bx4 := Aside0.mk b40; clear b40
 by_cases a36 : bx3 = true
 ·(
 subst a36
 rw [if_pos rfl] at H
 by_cases a37 : (!(aj0 == c7) || (!(aj1 == c8) || (!(aj2 == c9) || (!(aj3 == d0))))) = true
 ·(
 rw [if_pos a37] at H
 exact fy HT_l H
 )
 rw [if_neg a37] at H
 have a96 : (!(aj0 == c7) || (!(aj1 == c8) || (!(aj2 == c9) || (!(aj3 == d0))))) = false := by simpa using a37
 clear a37
 (first | rw [a96] | (simp only [i64_w, i32_w]; rw [a96]) | skip)
 by_cases a38 : l2 < 1
 ·(
 rw [if_pos a38] at H
 exact fy HT_l H
 )
 rw [if_neg a38] at H
 have dl8 : decide (l2 < 1) = false := decide_eq_false a38
 clear a38
 by_cases a39 : l2 > (wrap64 ((wrap64 (b9 + 1)) * (wrap64 (b6 + 1))))
 ·(
 rw [if_pos a39] at H
 exact fy HT_l H
 )
 rw [if_neg a39] at H
 have dl9 : decide ((wrap64 ((wrap64 (b9 + 1)) * (wrap64 (b6 + 1)))) < l2) = false := decide_eq_false a39
 clear a39
 have H' := Aside0.mk H
 clear H
 have dm0 := d5.out
 have dm1 := d6.out
 have dm2 := d8.out
 have dm3 := d9.out
 have dm4 := e0.out
 have dm5 := e1.out
 obtain ⟨bx5, bx6, bx7, bx8⟩ := cf2 a3
 have dm6 := uz4.out
 have dm7 := uz3.out
 have dm8 := K0.out
 have dm9 := K1.out
 obtain ⟨bx9, by0, by1, by2, by3, by4, by5, by6⟩ := cf4 a6
 repeat (go_not_at_region 14; go_not_at_region 20; go_not_at_region 29; go_not_at_region 30; go_not_at_region 45; go_not_at_region 83; go_not_at_region 86; first | ((with_reducible refine gate_callee (f := 19) rfl ?_); refine goesL_ (some 521) rfl rfl Try.func19 kr rfl #[.agg #[.int .i64 b9, .int .i64 b6], .agg #[.int .i64 g6, .int .i64 g7, .bool g8, .bool g9]] rfl sM ?_; (with_reducible refine (impl_BackBeam.calls b9 b6 g6 g7 g8 g9 aj0 aj1 aj2 aj3 true _ bx4.out).mono ?_); rintro e gh4 ⟨rfl, hb⟩; refine ⟨_, rfl, ?_⟩; replace a3 := bQ a3 hb; replace a5 := bQ a5 hb; replace a6 := bQ a6 hb; replace a7 := bQ a7 hb; replace HB := Aside0.mk (below_step bB hb); (try clear hb)) | ((with_reducible refine gate_dst (N := 40) rfl ?_); refine box_ (cs := #[.int .i64 0, .int .i64 0, .bool false, .bool false]) (t := 30) fun gd1 hg gh5 hbox hb => ?_; have bk7 := Aside0.mk (hbox); have gd2 := bS HB hg; have gd3 := bS HB hg; have a97 := bL a3 hg; have a98 := bM a3 hg; have a99 := bL a5 hg; have aa0 := bM a5 hg; have aa1 := bL a6 hg; have aa2 := bM a6 hg; have aa3 := bL a7 hg; have aa4 := bM a7 hg; replace a3 := bQ a3 hb; replace a5 := bQ a5 hb; replace a6 := bQ a6 hb; replace a7 := bQ a7 hb; replace HB := Aside0.mk (below_step bB hb); clear hb hbox hg; have dn0 := a98.out; have dn1 := a97.out; have dn2 := aa0.out; have dn3 := a99.out; have dn4 := aa2.out; have dn5 := aa1.out; have dn6 := aa4.out; have dn7 := aa3.out; obtain ⟨by7, by8, by9, bz0, bz1, bz2, bz3, bz4⟩ := cf4 bk7; have dn8 := uz5.out; have dn9 := uz6.out; obtain ⟨bz5, bz6, bz7, bz8, bz9, c00, c01, c02⟩ := cf4 a5; obtain ⟨c03, c04, c05, c06⟩ := cf2 a3) | go_skip | go_guarded | go_step | go_upon)
 go_meet
 case rel => exact ⟨_, H', ⟨laws_FnBeamsGo.jx⟩, (bA a3), (bA a5), (bA a6), (bA a7), ⟨bB⟩⟩
 )
 replace a36 := Bool.eq_false_iff.mpr a36
 subst a36
 rw [if_neg nft] at H
 exact fy HT_l H
 )
 replace a35 := Bool.eq_false_iff.mpr a35
 subst a35
 rw [if_neg nft] at H
 have H' := Aside0.mk H
 clear H
 repeat (go_not_at_region 14; go_not_at_region 20; go_not_at_region 29; go_not_at_region 30; go_not_at_region 45; go_not_at_region 83; go_not_at_region 86; first | go_skip | go_guarded | go_step | go_upon)
 go_meet
 case rel => exact ⟨_, H', ⟨laws_FnBeamsGo.jx⟩, (bA a3), (bA a5), (bA a6), (bA a7), ⟨bB⟩⟩
 )
 )
 clear a34
 obtain ⟨kq, HA, HJ338, a3, a5, a6, a7, HB⟩ := hcut
 cases kq with
 | zero => exact absurd HA.out (by simp [laws_FnBeamsGo.j11])
 | succ bk8 => (
 as_aux_lemma => (
 have H := HA.out
 clear HA
 simp only [laws_FnBeamsGo.j11] at H
 have a40 := Aside0.mk H
 clear H
 repeat (go_not_at_if 546; first | go_skip | go_guarded | go_step | go_upon)
 go_cut [546] from 546 to 546 (fun gh6 wc => ∃ (kq : Nat), Aside0 (laws_FnBeamsGo.j12 kq l1 = some r) ∧ Aside0 (kq ≤ bk8) ∧ Aside0 (wc.heap[e8]? = some (.cells #[.int .i64 b9, .int .i64 b6] 28 (0, 0))) ∧ Aside0 (wc.heap[h4]? = some (.cells #[.int .i64 c7, .int .i64 c8, .bool c9, .bool d0] 30 (0, 0))) ∧ Aside0 (wc.heap[h0]? = some (.cells #[.int .i64 g6, .int .i64 g7, .bool g8, .bool g9] 30 (0, 0))) ∧ Aside0 (wc.heap[e2]? = some (.cells #[.int .i64 h7, .int .i64 h8, .bool h9, .bool i0] 30 (0, 0))) ∧ Aside0 (Below w.heap.size w wc))
 case first => (
 as_aux_lemma => (
 have H := a40.out
 clear a40
 by_cases a41 : n1 = true
 ·(
 subst a41
 rw [if_pos rfl] at H
 replace H := Option.bind_eq_some_iff.mp H; obtain ⟨⟨a42, a43, a44, a45, c07⟩, b41, H⟩ := H; (try dsimp only at H); have c08 := Aside0.mk b41; clear b41
 replace H := Option.bind_eq_some_iff.mp H; obtain ⟨⟨aj4, aj5, aj6, aj7, c09⟩, b42, H⟩ := H; (try dsimp only at H); have c10 := Aside0.mk b42; clear b42
 by_cases a46 : k9 < 1
 ·(
 rw [if_pos a46] at H
 exact fy HT_l H
 )
 rw [if_neg a46] at H
 have aa5 : decide (k9 < 1) = false := decide_eq_false a46
 clear a46
 (first | rw [aa5] | (simp only [i64_w, i32_w]; rw [aa5]) | skip)
 by_cases a47 : c07 = true
 ·(
 subst a47
 rw [if_pos rfl] at H
 by_cases a48 : c09 = true
 ·(
 subst a48
 rw [if_pos rfl] at H
 by_cases a49 : (!(aj4 == a42) || (!(aj5 == a43) || (!(aj6 == a44) || (!(aj7 == a45))))) = true
 ·(
 rw [if_pos a49] at H
 exact fy HT_l H
 )
 rw [if_neg a49] at H
 have do0 : (!(aj4 == a42) || (!(aj5 == a43) || (!(aj6 == a44) || (!(aj7 == a45))))) = false := by simpa using a49
 clear a49
 by_cases a50 : l2 > k9
 ·(
 rw [if_pos a50] at H
 exact fy HT_l H
 )
 rw [if_neg a50] at H
 have do1 : decide (k9 < l2) = false := decide_eq_false a50
 clear a50
 have H' := Aside0.mk H
 clear H
 have do2 := d5.out
 have do3 := d6.out
 have do4 := d8.out
 have do5 := d9.out
 have do6 := e0.out
 have do7 := e1.out
 obtain ⟨c11, c12, c13, c14⟩ := cf2 a3
 have do8 := uz3.out
 have do9 := uz4.out
 have dp0 := uz5.out
 have dp1 := uz6.out
 obtain ⟨c15, c16, c17, c18, c19, c20, c21, c22⟩ := cf4 a5
 repeat (go_not_at_region 14; go_not_at_region 20; go_not_at_region 29; go_not_at_region 30; go_not_at_region 45; go_not_at_region 83; go_not_at_region 86; first | ((with_reducible refine gate_callee (f := 26) rfl ?_); refine goesL_ (some 550) rfl rfl Try.func26 kr rfl #[.agg #[.int .i64 b9, .int .i64 b6], .agg #[.int .i64 c7, .int .i64 c8, .bool c9, .bool d0], .int .i64 0] rfl sM ?_; (with_reducible refine (impl_BeamAfter.calls b9 b6 c7 c8 c9 d0 0 a42 a43 a44 a45 true _ c08.out).mono ?_); rintro e gh7 ⟨rfl, hb⟩; refine ⟨_, rfl, ?_⟩; replace a3 := bQ a3 hb; replace a5 := bQ a5 hb; replace a6 := bQ a6 hb; replace a7 := bQ a7 hb; replace HB := Aside0.mk (below_step bB hb); (try clear hb)) | ((with_reducible refine gate_dst (N := 42) rfl ?_); refine box_ (cs := #[.int .i64 0, .int .i64 0, .bool false, .bool false]) (t := 30) fun gd4 hg gh8 hbox hb => ?_; have v1 := Aside0.mk (hbox); have gd5 := bS HB hg; have gd6 := bS HB hg; have aa6 := bL a3 hg; have aa7 := bM a3 hg; have aa8 := bL a5 hg; have aa9 := bM a5 hg; have ab0 := bL a6 hg; have ab1 := bM a6 hg; have ab2 := bL a7 hg; have ab3 := bM a7 hg; replace a3 := bQ a3 hb; replace a5 := bQ a5 hb; replace a6 := bQ a6 hb; replace a7 := bQ a7 hb; replace HB := Aside0.mk (below_step bB hb); clear hb hbox hg; have dp2 := aa7.out; have dp3 := aa6.out; have dp4 := aa9.out; have dp5 := aa8.out; have dp6 := ab1.out; have dp7 := ab0.out; have dp8 := ab3.out; have dp9 := ab2.out; obtain ⟨c23, c24, c25, c26, c27, c28, c29, c30⟩ := cf4 v1; obtain ⟨c31, c32, c33, c34⟩ := cf2 a3; obtain ⟨c35, c36, c37, c38, c39, c40, c41, c42⟩ := cf4 a5) | ((with_reducible refine gate_callee (f := 26) rfl ?_); refine goesL_ (some 557) rfl rfl Try.func26 kr rfl #[.agg #[.int .i64 b9, .int .i64 b6], .agg #[.int .i64 c7, .int .i64 c8, .bool c9, .bool d0], .int .i64 k9] rfl sM ?_; (with_reducible refine (impl_BeamAfter.calls b9 b6 c7 c8 c9 d0 k9 aj4 aj5 aj6 aj7 true _ c10.out).mono ?_); rintro e gh9 ⟨rfl, hb⟩; refine ⟨_, rfl, ?_⟩; replace a3 := bQ a3 hb; replace a5 := bQ a5 hb; replace a6 := bQ a6 hb; replace a7 := bQ a7 hb; replace v1 := (bP (.cells #[.int .i64 a42, .int .i64 a43, .bool a44, .bool a45] 30 (0, 0)) v1 hb); replace HB := Aside0.mk (below_step bB hb); (try clear hb)) | ((with_reducible refine gate_dst (N := 44) rfl ?_); refine box_ (cs := #[.int .i64 0, .int .i64 0, .bool false, .bool false]) (t := 30) fun gd7 hg gi0 hbox hb => ?_; have bk9 := Aside0.mk (hbox); have gd8 := bS HB hg; have gd9 := bS HB hg; have ab4 := bL a3 hg; have ab5 := bM a3 hg; have ab6 := bL a5 hg; have ab7 := bM a5 hg; have ab8 := bL a6 hg; have ab9 := bM a6 hg; have ac0 := bL a7 hg; have ac1 := bM a7 hg; have ac2 := bL v1 hg; have ac3 := bM v1 hg; replace a3 := bQ a3 hb; replace a5 := bQ a5 hb; replace a6 := bQ a6 hb; replace a7 := bQ a7 hb; replace v1 := bQ v1 hb; replace HB := Aside0.mk (below_step bB hb); clear hb hbox hg; have dq0 := ab5.out; have dq1 := ab4.out; have dq2 := ab7.out; have dq3 := ab6.out; have dq4 := ab9.out; have dq5 := ab8.out; have dq6 := ac1.out; have dq7 := ac0.out; have dq8 := ac3.out; have dq9 := ac2.out; obtain ⟨c43, c44, c45, c46, c47, c48, c49, c50⟩ := cf4 bk9; obtain ⟨c51, c52, c53, c54, c55, c56, c57, c58⟩ := cf4 v1) | go_skip | go_guarded | go_step | go_upon)
 go_meet
 case rel => exact ⟨_, H', ⟨laws_FnBeamsGo.jx⟩, (bA a3), (bA a5), (bA a6), (bA a7), ⟨bB⟩⟩
 )
 replace a48 := Bool.eq_false_iff.mpr a48
 subst a48
 rw [if_neg nft] at H
 exact fy HT_l H
 )
 replace a47 := Bool.eq_false_iff.mpr a47
 subst a47
 rw [if_neg nft] at H
 exact fy HT_l H
 )
 replace a41 := Bool.eq_false_iff.mpr a41
 subst a41
 rw [if_neg nft] at H
 have H' := Aside0.mk H
 clear H
 repeat (go_not_at_region 14; go_not_at_region 20; go_not_at_region 29; go_not_at_region 30; go_not_at_region 45; go_not_at_region 83; go_not_at_region 86; first | go_skip | go_guarded | go_step | go_upon)
 go_meet
 case rel => exact ⟨_, H', ⟨laws_FnBeamsGo.jx⟩, (bA a3), (bA a5), (bA a6), (bA a7), ⟨bB⟩⟩
 )
 )
 clear a40
 obtain ⟨kq, HA, HJ362, a3, a5, a6, a7, HB⟩ := hcut
 cases kq with
 | zero => exact absurd HA.out (by simp [laws_FnBeamsGo.j12])
 | succ k8 => (
 as_aux_lemma => (
 have H := HA.out
 clear HA
 simp only [laws_FnBeamsGo.j12] at H
 replace H := Option.bind_eq_some_iff.mp H; obtain ⟨⟨m5, m6, m7, m8, m9, n0, uz1, uz2⟩, b43, H⟩ := H; (try dsimp only at H); have c59 := Aside0.mk b43; clear b43
 replace H := Option.bind_eq_some_iff.mp H; obtain ⟨⟨F6, J6⟩, b44, H⟩ := H; (try dsimp only at H); have c61 := Aside0.mk b44; clear b44
 replace H := Option.bind_eq_some_iff.mp H; obtain ⟨⟨bg7, bg8⟩, b45, H⟩ := H; (try dsimp only at H); have c71 := Aside0.mk b45; clear b45
 replace H := Option.bind_eq_some_iff.mp H; obtain ⟨⟨aj8, aj9⟩, b46, H⟩ := H; (try dsimp only at H); have c73 := Aside0.mk b46; clear b46
 replace H := Option.bind_eq_some_iff.mp H; obtain ⟨⟨bg9, bh0⟩, b47, H⟩ := H; (try dsimp only at H); have c74 := Aside0.mk b47; clear b47
 replace H := Option.bind_eq_some_iff.mp H; obtain ⟨⟨g3, g4, j7, j8, k6, k7, n4⟩, b48, H⟩ := H; (try dsimp only at H); have c81 := Aside0.mk b48; clear b48
 replace H := Option.bind_eq_some_iff.mp H; obtain ⟨⟨n5, n6, p0, p1, F7⟩, b49, H⟩ := H; (try dsimp only at H); have c82 := Aside0.mk b49; clear b49
 replace H := Option.bind_eq_some_iff.mp H; obtain ⟨⟨y9, z2, z3, z4, bh1⟩, b50, H⟩ := H; (try dsimp only at H); have c83 := Aside0.mk b50; clear b50
 replace H := Option.bind_eq_some_iff.mp H; obtain ⟨⟨S1, S2, a51⟩, b51, H⟩ := H; (try dsimp only at H); have c84 := Aside0.mk b51; clear b51
 replace H := Option.bind_eq_some_iff.mp H; obtain ⟨⟨bh2, bh3, bh4⟩, b52, H⟩ := H; (try dsimp only at H); have c85 := Aside0.mk b52; clear b52
 have a52 := Aside0.mk H
 clear H
 go_upto_region 68 with (first | ((with_reducible refine gate_dst (N := 588) rfl ?_); refine nmW fun Wa_ hW_ => ?_; have nB_ := bG HB hW_; replace a3 := bF hW_ a3; replace a5 := bF hW_ a5; replace a6 := bF hW_ a6; replace a7 := bF hW_ a7; replace b4 := bFp hW_ (.cells #[.int .i64 m5, .int .i64 m6] 28 (0, 0)) b4; replace b5 := bFp hW_ (.cells #[.int .i64 m7, .int .i64 m8, .bool m9, .bool n0] 30 (0, 0)) b5; clear HB hW_; have HB := nB_; clear nB_; obtain ⟨ya00_, ya01_, ya02_, ya03_⟩ := cf2 b4; obtain ⟨ya10_, ya11_, ya12_, ya13_, ya14_, ya15_, ya16_, ya17_⟩ := cf4 b5; go_step) | ((with_reducible refine gate_dst (N := 626) rfl ?_); refine nmW fun Wb_ hW_ => ?_; have nB_ := bG HB hW_; replace a3 := bF hW_ a3; replace a5 := bF hW_ a5; replace a6 := bF hW_ a6; replace a7 := bF hW_ a7; replace b4 := bF hW_ b4; replace b5 := bF hW_ b5; replace b8 := bFp hW_ (.cells #[.int .i64 g3, .int .i64 g4] 28 (0, 0)) b8; replace c2 := bFp hW_ (.cells #[.int .i64 j7, .int .i64 j8, .bool k6, .bool k7] 30 (0, 0)) c2; clear HB hW_; have HB := nB_; clear nB_; obtain ⟨yb00_, yb01_, yb02_, yb03_⟩ := cf2 b8; obtain ⟨yb10_, yb11_, yb12_, yb13_, yb14_, yb15_, yb16_, yb17_⟩ := cf4 c2; go_step) | ((with_reducible refine gate_dst (N := 633) rfl ?_); refine nmW fun Wc_ hW_ => ?_; have nB_ := bG HB hW_; replace a3 := bF hW_ a3; replace a5 := bF hW_ a5; replace a6 := bF hW_ a6; replace a7 := bF hW_ a7; replace b4 := bF hW_ b4; replace b5 := bF hW_ b5; replace b8 := bF hW_ b8; replace c2 := bF hW_ c2; replace c6 := bFp hW_ (.cells #[.int .i64 n5, .int .i64 n6, .bool p0, .bool p1] 30 (0, 0)) c6; clear HB hW_; have HB := nB_; clear nB_; obtain ⟨yc00_, yc01_, yc02_, yc03_⟩ := cf2 b8; obtain ⟨yc10_, yc11_, yc12_, yc13_, yc14_, yc15_, yc16_, yc17_⟩ := cf4 c2; obtain ⟨yc20_, yc21_, yc22_, yc23_, yc24_, yc25_, yc26_, yc27_⟩ := cf4 c6; go_step) | ((with_reducible refine gate_dst (N := 640) rfl ?_); refine nmW fun Wd_ hW_ => ?_; have nB_ := bG HB hW_; replace a3 := bF hW_ a3; replace a5 := bF hW_ a5; replace a6 := bF hW_ a6; replace a7 := bF hW_ a7; replace b4 := bF hW_ b4; replace b5 := bF hW_ b5; replace b8 := bF hW_ b8; replace c2 := bF hW_ c2; replace c6 := bF hW_ c6; replace d3 := bFp hW_ (.cells #[.int .i64 y9, .int .i64 z2, .bool z3, .bool z4] 30 (0, 0)) d3; clear HB hW_; have HB := nB_; clear nB_; obtain ⟨yd00_, yd01_, yd02_, yd03_⟩ := cf2 b8; obtain ⟨yd10_, yd11_, yd12_, yd13_, yd14_, yd15_, yd16_, yd17_⟩ := cf4 c2; obtain ⟨yd20_, yd21_, yd22_, yd23_, yd24_, yd25_, yd26_, yd27_⟩ := cf4 d3; go_step) | ((with_reducible refine gate_callee (f := 36) rfl ?_); refine goesL_ (some 582) rfl rfl Try.func36 kr rfl #[.slice A1 l1.length c1] rfl sM ?_; (with_reducible refine (spec_DrawFirstPass.calls _ _ l1 m5 m6 m7 m8 m9 n0 uz1 uz2 _ ?side1 ?side2 c59.out).mono ?_); (case side1 => repeat (first | exact (Kd.C_below HR1.out HB.out) | (with_reducible refine Kd.C_alloc ?_ _) | (with_reducible refine Kd.C_drewN ?_ _) | (with_reducible refine Kd.C_drew ?_))); (case side2 => exact HC1.out); rintro e gi1 ⟨rfl, hb⟩; refine ⟨_, rfl, ?_⟩; replace a3 := bQ a3 hb; replace a5 := bQ a5 hb; replace a6 := bQ a6 hb; replace a7 := bQ a7 hb; replace HB := Aside0.mk (below_step bB hb); (try clear hb)) | ((with_reducible refine gate_dst (N := 46) rfl ?_); refine box_ (cs := #[.int .i64 0, .int .i64 0]) (t := 28) fun G7 hg gi2 hbox hb => ?_; have b4 := Aside0.mk (hbox); have ge0 := bS HB hg; have ge1 := bS HB hg; have K2 := bL a3 hg; have K3 := bM a3 hg; have K4 := bL a5 hg; have K5 := bM a5 hg; have K6 := bL a6 hg; have K7 := bM a6 hg; have K8 := bL a7 hg; have K9 := bM a7 hg; replace a3 := bQ a3 hb; replace a5 := bQ a5 hb; replace a6 := bQ a6 hb; replace a7 := bQ a7 hb; replace HB := Aside0.mk (below_step bB hb); clear hb hbox hg) | ((with_reducible refine gate_dst (N := 47) rfl ?_); refine box_ (cs := #[.int .i64 0, .int .i64 0, .bool false, .bool false]) (t := 30) fun G8 hg gi3 hbox hb => ?_; have b5 := Aside0.mk (hbox); have ge2 := bS HB hg; have ge3 := bS HB hg; have L0 := bL a3 hg; have L1 := bM a3 hg; have L2 := bL a5 hg; have L3 := bM a5 hg; have L4 := bL a6 hg; have L5 := bM a6 hg; have L6 := bL a7 hg; have L7 := bM a7 hg; have L8 := bL b4 hg; have L9 := bM b4 hg; replace a3 := bQ a3 hb; replace a5 := bQ a5 hb; replace a6 := bQ a6 hb; replace a7 := bQ a7 hb; replace b4 := bQ b4 hb; replace HB := Aside0.mk (below_step bB hb); clear hb hbox hg; have dr0 := K3.out; have dr1 := K2.out; have dr2 := K5.out; have dr3 := K4.out; have dr4 := K7.out; have dr5 := K6.out; have dr6 := K9.out; have dr7 := K8.out; have dr8 := L8.out; have dr9 := L9.out; obtain ⟨ak0, ak1, ak2, ak3⟩ := cf2 b4; have ds0 := L1.out; have ds1 := L0.out; have ds2 := L3.out; have ds3 := L2.out; have ds4 := L5.out; have ds5 := L4.out; have ds6 := L7.out; have ds7 := L6.out; obtain ⟨ak4, ak5, ak6, ak7, ak8, ak9, al0, al1⟩ := cf4 b5) | ((with_reducible refine gate_callee (f := 27) rfl ?_); refine goesL_ (some 592) rfl rfl Try.func27 kr rfl #[.agg #[.int .i64 m5, .int .i64 m6], .agg #[.int .i64 m7, .int .i64 m8, .bool m9, .bool n0], .int .i64 uz1, .int .i64 uz2] rfl sM ?_; (with_reducible refine (impl_FirstPass.calls m5 m6 m7 m8 m9 n0 uz1 uz2 F6 J6 _ c61.out).mono ?_); rintro e gi4 ⟨rfl, hb⟩; refine ⟨_, rfl, ?_⟩; replace a3 := bQ a3 hb; replace a5 := bQ a5 hb; replace a6 := bQ a6 hb; replace a7 := bQ a7 hb; replace b4 := (bP (.cells #[.int .i64 m5, .int .i64 m6] 28 (0, 0)) b4 hb); replace b5 := (bP (.cells #[.int .i64 m7, .int .i64 m8, .bool m9, .bool n0] 30 (0, 0)) b5 hb); replace HB := Aside0.mk (below_step bB hb); (try clear hb); obtain ⟨al2, al3, al4, al5⟩ := cf2 b4; obtain ⟨al6, al7, al8, al9, am0, am1, am2, am3⟩ := cf4 b5) | ((with_reducible refine gate_callee (f := 28) rfl ?_); refine goesL_ (some 600) rfl rfl Try.func28 kr rfl #[.agg #[.int .i64 m5, .int .i64 m6], .agg #[.int .i64 m7, .int .i64 m8, .bool m9, .bool n0], .int .i64 uz1, .int .i64 uz2] rfl sM ?_; (with_reducible refine (spec_FirstPass.calls k8 m5 m6 m7 m8 m9 n0 uz1 uz2 bg7 bg8 _ c71.out).mono ?_); rintro e gi5 ⟨rfl, hb⟩; refine ⟨_, rfl, ?_⟩; replace a3 := bQ a3 hb; replace a5 := bQ a5 hb; replace a6 := bQ a6 hb; replace a7 := bQ a7 hb; replace b4 := bQ b4 hb; replace b5 := bQ b5 hb; replace HB := Aside0.mk (below_step bB hb); (try clear hb); obtain ⟨am4, am5, am6, am7⟩ := cf2 b4; obtain ⟨am8, am9, an0, an1, an2, an3, an4, an5⟩ := cf4 b5) | ((with_reducible refine gate_callee (f := 29) rfl ?_); refine goesL_ (some 608) rfl rfl Try.func29 kr rfl #[.agg #[.int .i64 m5, .int .i64 m6], .agg #[.int .i64 m7, .int .i64 m8, .bool m9, .bool n0], .int .i64 uz1, .int .i64 uz2] rfl sM ?_; (with_reducible refine (impl_DoesPass.calls m5 m6 m7 m8 m9 n0 uz1 uz2 aj8 aj9 _ c73.out).mono ?_); rintro e gi6 ⟨rfl, hb⟩; refine ⟨_, rfl, ?_⟩; replace a3 := bQ a3 hb; replace a5 := bQ a5 hb; replace a6 := bQ a6 hb; replace a7 := bQ a7 hb; replace b4 := bQ b4 hb; replace b5 := bQ b5 hb; replace HB := Aside0.mk (below_step bB hb); (try clear hb); obtain ⟨an6, an7, an8, an9⟩ := cf2 b4; obtain ⟨ao0, ao1, ao2, ao3, ao4, ao5, ao6, ao7⟩ := cf4 b5) | ((with_reducible refine gate_callee (f := 30) rfl ?_); refine goesL_ (some 616) rfl rfl Try.func30 kr rfl #[.agg #[.int .i64 m5, .int .i64 m6], .agg #[.int .i64 m7, .int .i64 m8, .bool m9, .bool n0], .int .i64 uz1, .int .i64 uz2] rfl sM ?_; (with_reducible refine (spec_DoesPass.calls k8 m5 m6 m7 m8 m9 n0 uz1 uz2 bg9 bh0 _ c74.out).mono ?_); rintro e gi7 ⟨rfl, hb⟩; refine ⟨_, rfl, ?_⟩; replace a3 := bQ a3 hb; replace a5 := bQ a5 hb; replace a6 := bQ a6 hb; replace a7 := bQ a7 hb; replace b4 := bQ b4 hb; replace b5 := bQ b5 hb; replace HB := Aside0.mk (below_step bB hb); (try clear hb)) | ((with_reducible refine gate_callee (f := 37) rfl ?_); refine goesL_ (some 621) rfl rfl Try.func37 kr rfl #[.slice A1 l1.length c1] rfl sM ?_; (with_reducible refine (spec_DrawBeamAfter.calls _ _ l1 g3 g4 j7 j8 k6 k7 n4 _ ?side1 ?side2 c81.out).mono ?_); (case side1 => repeat (first | exact (Kd.C_below HR1.out HB.out) | (with_reducible refine Kd.C_alloc ?_ _) | (with_reducible refine Kd.C_drewN ?_ _) | (with_reducible refine Kd.C_drew ?_))); (case side2 => exact HC1.out); rintro e gi8 ⟨rfl, hb⟩; refine ⟨_, rfl, ?_⟩; replace a3 := bQ a3 hb; replace a5 := bQ a5 hb; replace a6 := bQ a6 hb; replace a7 := bQ a7 hb; replace b4 := bQ b4 hb; replace b5 := bQ b5 hb; replace HB := Aside0.mk (below_step bB hb); (try clear hb)) | ((with_reducible refine gate_dst (N := 58) rfl ?_); refine box_ (cs := #[.int .i64 0, .int .i64 0]) (t := 28) fun q6 hg gi9 hbox hb => ?_; have b8 := Aside0.mk (hbox); have ge4 := bS HB hg; have ge5 := bS HB hg; have l3 := bL a3 hg; have l4 := bM a3 hg; have l5 := bL a5 hg; have l6 := bM a5 hg; have l7 := bL a6 hg; have l8 := bM a6 hg; have l9 := bL a7 hg; have m0 := bM a7 hg; have k1 := bL b4 hg; have k2 := bM b4 hg; have k3 := bL b5 hg; have k4 := bM b5 hg; replace a3 := bQ a3 hb; replace a5 := bQ a5 hb; replace a6 := bQ a6 hb; replace a7 := bQ a7 hb; replace b4 := bQ b4 hb; replace b5 := bQ b5 hb; replace HB := Aside0.mk (below_step bB hb); clear hb hbox hg) | ((with_reducible refine gate_dst (N := 59) rfl ?_); refine box_ (cs := #[.int .i64 0, .int .i64 0, .bool false, .bool false]) (t := 30) fun G9 hg gj0 hbox hb => ?_; have c2 := Aside0.mk (hbox); have ge6 := bS HB hg; have ge7 := bS HB hg; have A2 := bL a3 hg; have A4 := bM a3 hg; have B0 := bL a5 hg; have B1 := bM a5 hg; have B2 := bL a6 hg; have B3 := bM a6 hg; have B4 := bL a7 hg; have B5 := bM a7 hg; have v2 := bL b4 hg; have v3 := bM b4 hg; have v4 := bL b5 hg; have v5 := bM b5 hg; have m1 := bL b8 hg; have m2 := bM b8 hg; replace a3 := bQ a3 hb; replace a5 := bQ a5 hb; replace a6 := bQ a6 hb; replace a7 := bQ a7 hb; replace b4 := bQ b4 hb; replace b5 := bQ b5 hb; replace b8 := bQ b8 hb; replace HB := Aside0.mk (below_step bB hb); clear hb hbox hg; have ds8 := l4.out; have ds9 := l3.out; have dt0 := l6.out; have dt1 := l5.out; have dt2 := l8.out; have dt3 := l7.out; have dt4 := m0.out; have dt5 := l9.out; have dt6 := k2.out; have dt7 := k1.out; have dt8 := k4.out; have dt9 := k3.out; have du0 := m1.out; have du1 := m2.out; obtain ⟨ao8, ao9, ap0, ap1⟩ := cf2 b8; have du2 := A4.out; have du3 := A2.out; have du4 := B1.out; have du5 := B0.out; have du6 := B3.out; have du7 := B2.out; have du8 := B5.out; have du9 := B4.out; have dv0 := v3.out; have dv1 := v2.out; have dv2 := v5.out; have dv3 := v4.out; obtain ⟨ap2, ap3, ap4, ap5, ap6, ap7, ap8, ap9⟩ := cf4 c2) | ((with_reducible refine gate_callee (f := 26) rfl ?_); refine goesL_ (some 629) rfl rfl Try.func26 kr rfl #[.agg #[.int .i64 g3, .int .i64 g4], .agg #[.int .i64 j7, .int .i64 j8, .bool k6, .bool k7], .int .i64 n4] rfl sM ?_; (with_reducible refine (impl_BeamAfter.calls g3 g4 j7 j8 k6 k7 n4 n5 n6 p0 p1 F7 _ c82.out).mono ?_); rintro e gj1 ⟨rfl, hb⟩; refine ⟨_, rfl, ?_⟩; replace a3 := bQ a3 hb; replace a5 := bQ a5 hb; replace a6 := bQ a6 hb; replace a7 := bQ a7 hb; replace b4 := bQ b4 hb; replace b5 := bQ b5 hb; replace b8 := (bP (.cells #[.int .i64 g3, .int .i64 g4] 28 (0, 0)) b8 hb); replace c2 := (bP (.cells #[.int .i64 j7, .int .i64 j8, .bool k6, .bool k7] 30 (0, 0)) c2 hb); replace HB := Aside0.mk (below_step bB hb); (try clear hb)) | ((with_reducible refine gate_dst (N := 61) rfl ?_); refine box_ (cs := #[.int .i64 0, .int .i64 0, .bool false, .bool false]) (t := 30) fun I0 hg gj2 hbox hb => ?_; have c6 := Aside0.mk (hbox); have ge8 := bS HB hg; have ge9 := bS HB hg; have p4 := bL a3 hg; have p5 := bM a3 hg; have p6 := bL a5 hg; have p7 := bM a5 hg; have p8 := bL a6 hg; have p9 := bM a6 hg; have q0 := bL a7 hg; have q1 := bM a7 hg; have n7 := bL b4 hg; have n8 := bM b4 hg; have n9 := bL b5 hg; have o0 := bM b5 hg; have j0 := bL b8 hg; have j1 := bM b8 hg; have o1 := bL c2 hg; have o2 := bM c2 hg; replace a3 := bQ a3 hb; replace a5 := bQ a5 hb; replace a6 := bQ a6 hb; replace a7 := bQ a7 hb; replace b4 := bQ b4 hb; replace b5 := bQ b5 hb; replace b8 := bQ b8 hb; replace c2 := bQ c2 hb; replace HB := Aside0.mk (below_step bB hb); clear hb hbox hg; have dv4 := p5.out; have dv5 := p4.out; have dv6 := p7.out; have dv7 := p6.out; have dv8 := p9.out; have dv9 := p8.out; have dw0 := q1.out; have dw1 := q0.out; have dw2 := n8.out; have dw3 := n7.out; have dw4 := o0.out; have dw5 := n9.out; have dw6 := j1.out; have dw7 := j0.out; have dw8 := o2.out; have dw9 := o1.out; obtain ⟨aq0, aq1, aq2, aq3, aq4, aq5, aq6, aq7⟩ := cf4 c6; obtain ⟨aq8, aq9, ar0, ar1⟩ := cf2 b8; obtain ⟨ar2, ar3, ar4, ar5, ar6, ar7, ar8, ar9⟩ := cf4 c2) | ((with_reducible refine gate_callee (f := 31) rfl ?_); refine goesL_ (some 636) rfl rfl Try.func31 kr rfl #[.agg #[.int .i64 g3, .int .i64 g4], .agg #[.int .i64 j7, .int .i64 j8, .bool k6, .bool k7], .int .i64 n4] rfl sM ?_; (with_reducible refine (spec_BeamAfter.calls k8 g3 g4 j7 j8 k6 k7 n4 y9 z2 z3 z4 bh1 _ c83.out).mono ?_); rintro e gj3 ⟨rfl, hb⟩; refine ⟨_, rfl, ?_⟩; replace a3 := bQ a3 hb; replace a5 := bQ a5 hb; replace a6 := bQ a6 hb; replace a7 := bQ a7 hb; replace b4 := bQ b4 hb; replace b5 := bQ b5 hb; replace b8 := bQ b8 hb; replace c2 := bQ c2 hb; replace c6 := (bP (.cells #[.int .i64 n5, .int .i64 n6, .bool p0, .bool p1] 30 (0, 0)) c6 hb); replace HB := Aside0.mk (below_step bB hb); (try clear hb)) | ((with_reducible refine gate_dst (N := 63) rfl ?_); refine box_ (cs := #[.int .i64 0, .int .i64 0, .bool false, .bool false]) (t := 30) fun I1 hg gj4 hbox hb => ?_; have d3 := Aside0.mk (hbox); have gf0 := bS HB hg; have gf1 := bS HB hg; have B6 := bL a3 hg; have B7 := bM a3 hg; have B8 := bL a5 hg; have B9 := bM a5 hg; have C0 := bL a6 hg; have C1 := bM a6 hg; have C2 := bL a7 hg; have C3 := bM a7 hg; have v6 := bL b4 hg; have v7 := bM b4 hg; have v8 := bL b5 hg; have v9 := bM b5 hg; have j2 := bL b8 hg; have j3 := bM b8 hg; have r1 := bL c2 hg; have r2 := bM c2 hg; have q2 := bL c6 hg; have q3 := bM c6 hg; replace a3 := bQ a3 hb; replace a5 := bQ a5 hb; replace a6 := bQ a6 hb; replace a7 := bQ a7 hb; replace b4 := bQ b4 hb; replace b5 := bQ b5 hb; replace b8 := bQ b8 hb; replace c2 := bQ c2 hb; replace c6 := bQ c6 hb; replace HB := Aside0.mk (below_step bB hb); clear hb hbox hg; have dx0 := B7.out; have dx1 := B6.out; have dx2 := B9.out; have dx3 := B8.out; have dx4 := C1.out; have dx5 := C0.out; have dx6 := C3.out; have dx7 := C2.out; have dx8 := v7.out; have dx9 := v6.out; have dy0 := v9.out; have dy1 := v8.out; have dy2 := j3.out; have dy3 := j2.out; have dy4 := r2.out; have dy5 := r1.out; have dy6 := q3.out; have dy7 := q2.out; obtain ⟨as0, as1, as2, as3, as4, as5, as6, as7⟩ := cf4 d3; obtain ⟨as8, as9, at0, at1⟩ := cf2 b8; obtain ⟨at2, at3, at4, at5, at6, at7, at8, at9⟩ := cf4 c2) | ((with_reducible refine gate_callee (f := 32) rfl ?_); refine goesL_ (some 643) rfl rfl Try.func32 kr rfl #[.agg #[.int .i64 g3, .int .i64 g4], .agg #[.int .i64 j7, .int .i64 j8, .bool k6, .bool k7], .int .i64 n4] rfl sM ?_; (with_reducible refine (impl_UnfoldedPlace.calls k8 g3 g4 j7 j8 k6 k7 n4 S1 S2 a51 _ c84.out).mono ?_); rintro e gj5 ⟨rfl, hb⟩; refine ⟨_, rfl, ?_⟩; replace a3 := bQ a3 hb; replace a5 := bQ a5 hb; replace a6 := bQ a6 hb; replace a7 := bQ a7 hb; replace b4 := bQ b4 hb; replace b5 := bQ b5 hb; replace b8 := bQ b8 hb; replace c2 := bQ c2 hb; replace c6 := bQ c6 hb; replace d3 := (bP (.cells #[.int .i64 y9, .int .i64 z2, .bool z3, .bool z4] 30 (0, 0)) d3 hb); replace HB := Aside0.mk (below_step bB hb); (try clear hb); obtain ⟨au0, au1, au2, au3⟩ := cf2 b8; obtain ⟨au4, au5, au6, au7, au8, au9, av0, av1⟩ := cf4 c2) | ((with_reducible refine gate_callee (f := 33) rfl ?_); refine goesL_ (some 651) rfl rfl Try.func33 kr rfl #[.agg #[.int .i64 g3, .int .i64 g4], .agg #[.int .i64 j7, .int .i64 j8, .bool k6, .bool k7], .int .i64 n4] rfl sM ?_; (with_reducible refine (spec_UnfoldedPlace.calls g3 g4 j7 j8 k6 k7 n4 bh2 bh3 bh4 _ c85.out).mono ?_); rintro e gj6 ⟨rfl, hb⟩; refine ⟨_, rfl, ?_⟩; replace a3 := bQ a3 hb; replace a5 := bQ a5 hb; replace a6 := bQ a6 hb; replace a7 := bQ a7 hb; replace b4 := bQ b4 hb; replace b5 := bQ b5 hb; replace b8 := bQ b8 hb; replace c2 := bQ c2 hb; replace c6 := bQ c6 hb; replace d3 := bQ d3 hb; replace HB := Aside0.mk (below_step bB hb); (try clear hb)))
 (try simp only [Act.put, List.setIfInBounds_toArray, List.set_cons_zero, List.set_cons_succ])
 go_cut [710] from 710 to 710 (fun c86 wc => ∃ (kq : Nat) (z5 : Bool), c86 = .bool z5 ∧ Aside0 (laws_FnBeamsGo.j13 kq uz1 uz2 F6 J6 n4 F7 S1 S2 z5 m5 m6 m7 m8 m9 n0 g3 g4 j7 j8 k6 k7 n5 n6 p0 p1 = some r) ∧ Aside0 (kq ≤ k8) ∧ Aside0 (wc.heap[e8]? = some (.cells #[.int .i64 b9, .int .i64 b6] 28 (0, 0))) ∧ Aside0 (wc.heap[h4]? = some (.cells #[.int .i64 c7, .int .i64 c8, .bool c9, .bool d0] 30 (0, 0))) ∧ Aside0 (wc.heap[h0]? = some (.cells #[.int .i64 g6, .int .i64 g7, .bool g8, .bool g9] 30 (0, 0))) ∧ Aside0 (wc.heap[e2]? = some (.cells #[.int .i64 h7, .int .i64 h8, .bool h9, .bool i0] 30 (0, 0))) ∧ Aside0 (wc.heap[G7]? = some (.cells #[.int .i64 m5, .int .i64 m6] 28 (0, 0))) ∧ Aside0 (wc.heap[G8]? = some (.cells #[.int .i64 m7, .int .i64 m8, .bool m9, .bool n0] 30 (0, 0))) ∧ Aside0 (wc.heap[q6]? = some (.cells #[.int .i64 g3, .int .i64 g4] 28 (0, 0))) ∧ Aside0 (wc.heap[G9]? = some (.cells #[.int .i64 j7, .int .i64 j8, .bool k6, .bool k7] 30 (0, 0))) ∧ Aside0 (wc.heap[I0]? = some (.cells #[.int .i64 n5, .int .i64 n6, .bool p0, .bool p1] 30 (0, 0))) ∧ Aside0 (wc.heap[I1]? = some (.cells #[.int .i64 y9, .int .i64 z2, .bool z3, .bool z4] 30 (0, 0))) ∧ Aside0 (Below w.heap.size w wc))
 case first => (
 as_aux_lemma => (
 have H := a52.out
 clear a52
 by_cases a53 : (J6 != bg8) = true
 ·(
 rw [if_pos a53] at H
 exact absurd H (by cases k8 <;> simp [laws_FnBeamsGo.j13, HT_l.out])
 )
 rw [if_neg a53] at H
 obtain ⟨ac4, dy8, dy9⟩ := nf a53
 clear a53
 (first | rw [ac4] | (simp only [i64_w, i32_w]; rw [ac4]) | skip)
 by_cases a54 : F6 = bg7
 ·(
 rw [if_pos a54] at H
 obtain ⟨dz0, dz1⟩ := yE a54
 clear a54
 by_cases a55 : (aj9 != bh0) = true
 ·(
 rw [if_pos a55] at H
 exact absurd H (by cases k8 <;> simp [laws_FnBeamsGo.j13, HT_l.out])
 )
 rw [if_neg a55] at H
 obtain ⟨dz2, dz3, dz4⟩ := nf a55
 clear a55
 by_cases a56 : (aj8 != bg9) = true
 ·(
 rw [if_pos a56] at H
 exact absurd H (by cases k8 <;> simp [laws_FnBeamsGo.j13, HT_l.out])
 )
 rw [if_neg a56] at H
 obtain ⟨dz5, dz6, dz7⟩ := nf a56
 clear a56
 by_cases a57 : (F7 != bh1) = true
 ·(
 rw [if_pos a57] at H
 exact absurd H (by cases k8 <;> simp [laws_FnBeamsGo.j13, HT_l.out])
 )
 rw [if_neg a57] at H
 obtain ⟨dz8, dz9, e00⟩ := nf a57
 clear a57
 by_cases a58 : (!(n5 == y9) || (!(n6 == z2) || (!(p0 == z3) || (!(p1 == z4))))) = true
 ·(
 rw [if_pos a58] at H
 exact absurd H (by cases k8 <;> simp [laws_FnBeamsGo.j13, HT_l.out])
 )
 rw [if_neg a58] at H
 have e01 : (!(n5 == y9) || (!(n6 == z2) || (!(p0 == z3) || (!(p1 == z4))))) = false := by simpa using a58
 clear a58
 by_cases a59 : (a51 != bh4) = true
 ·(
 rw [if_pos a59] at H
 exact absurd H (by cases k8 <;> simp [laws_FnBeamsGo.j13, HT_l.out])
 )
 rw [if_neg a59] at H
 obtain ⟨e02, e03, e04⟩ := nf a59
 clear a59
 by_cases a60 : S1 = bh2
 ·(
 rw [if_pos a60] at H
 obtain ⟨e05, e06⟩ := yE a60
 clear a60
 by_cases a61 : S2 = bh3
 ·(
 rw [if_pos a61] at H
 obtain ⟨e07, e08⟩ := yE a61
 clear a61
 by_cases a62 : aj9 = true
 ·(
 subst a62
 rw [if_pos rfl] at H
 by_cases a63 : (J6 != aj8) = true
 ·(
 rw [if_pos a63] at H
 exact absurd H (by cases k8 <;> simp [laws_FnBeamsGo.j13, HT_l.out])
 )
 rw [if_neg a63] at H
 obtain ⟨e09, e10, e11⟩ := nf a63
 clear a63
 have H' := Aside0.mk H
 clear H
 have e12 := p5.out
 have e13 := p4.out
 have e14 := p7.out
 have e15 := p6.out
 have e16 := p9.out
 have e17 := p8.out
 have e18 := q1.out
 have e19 := q0.out
 have e20 := n8.out
 have e21 := n7.out
 have e22 := o0.out
 have e23 := n9.out
 have e24 := j1.out
 have e25 := j0.out
 have e26 := o2.out
 have e27 := o1.out
 have e28 := q2.out
 have e29 := q3.out
 obtain ⟨c87, c88, c89, c90, c91, c92, c93, c94⟩ := cf4 c6
 have e30 := B7.out
 have e31 := B6.out
 have e32 := B9.out
 have e33 := B8.out
 have e34 := C1.out
 have e35 := C0.out
 have e36 := C3.out
 have e37 := C2.out
 have e38 := v7.out
 have e39 := v6.out
 have e40 := v9.out
 have e41 := v8.out
 have e42 := j3.out
 have e43 := j2.out
 have e44 := r2.out
 have e45 := r1.out
 obtain ⟨c98, c99, ca0, ca1, ca2, ca3, ca4, ca5⟩ := cf4 d3
 repeat (go_not_at_region 14; go_not_at_region 20; go_not_at_region 29; go_not_at_region 30; go_not_at_region 45; go_not_at_region 83; go_not_at_region 86; first | go_skip | go_guarded | go_step | go_upon)
 go_meet
 case rel => exact ⟨_, ((a51 != F7)), sR, H', ⟨laws_FnBeamsGo.jx⟩, (bA a3), (bA a5), (bA a6), (bA a7), (bA b4), (bA b5), (bA b8), (bA c2), (bA c6), (bA d3), ⟨bB⟩⟩
 )
 replace a62 := Bool.eq_false_iff.mpr a62
 subst a62
 rw [if_neg nft] at H
 by_cases a64 : (J6 != false) = true
 ·(
 rw [if_pos a64] at H
 exact absurd H (by cases k8 <;> simp [laws_FnBeamsGo.j13, HT_l.out])
 )
 rw [if_neg a64] at H
 obtain ⟨e46, e47, e48⟩ := nf a64
 clear a64
 have H' := Aside0.mk H
 clear H
 have e49 := p5.out
 have e50 := p4.out
 have e51 := p7.out
 have e52 := p6.out
 have e53 := p9.out
 have e54 := p8.out
 have e55 := q1.out
 have e56 := q0.out
 have e57 := n8.out
 have e58 := n7.out
 have e59 := o0.out
 have e60 := n9.out
 have e61 := j1.out
 have e62 := j0.out
 have e63 := o2.out
 have e64 := o1.out
 have e65 := q2.out
 have e66 := q3.out
 obtain ⟨ca6, ca7, ca8, ca9, cb0, cb1, cb2, cb3⟩ := cf4 c6
 have e67 := B7.out
 have e68 := B6.out
 have e69 := B9.out
 have e70 := B8.out
 have e71 := C1.out
 have e72 := C0.out
 have e73 := C3.out
 have e74 := C2.out
 have e75 := v7.out
 have e76 := v6.out
 have e77 := v9.out
 have e78 := v8.out
 have e79 := j3.out
 have e80 := j2.out
 have e81 := r2.out
 have e82 := r1.out
 obtain ⟨cb4, cb5, cb6, cb7, cb8, cb9, cc0, cc1⟩ := cf4 d3
 repeat (go_not_at_region 14; go_not_at_region 20; go_not_at_region 29; go_not_at_region 30; go_not_at_region 45; go_not_at_region 83; go_not_at_region 86; first | go_skip | go_guarded | go_step | go_upon)
 go_meet
 case rel => exact ⟨_, ((a51 != F7)), sR, H', ⟨laws_FnBeamsGo.jx⟩, (bA a3), (bA a5), (bA a6), (bA a7), (bA b4), (bA b5), (bA b8), (bA c2), (bA c6), (bA d3), ⟨bB⟩⟩
 )
 rw [if_neg a61] at H
 exact absurd H (by cases k8 <;> simp [laws_FnBeamsGo.j13, HT_l.out])
 )
 rw [if_neg a60] at H
 exact absurd H (by cases k8 <;> simp [laws_FnBeamsGo.j13, HT_l.out])
 )
 rw [if_neg a54] at H
 exact absurd H (by cases k8 <;> simp [laws_FnBeamsGo.j13, HT_l.out])
 )
 )
 clear a52
 try clear ak0
 try clear ak1
 try clear ak4
 try clear ak5
 try clear ak6
 try clear ak7
 try clear al2
 try clear al3
 try clear al6
 try clear al7
 try clear al8
 try clear al9
 try clear am4
 try clear am5
 try clear am8
 try clear am9
 try clear an0
 try clear an1
 try clear an6
 try clear an7
 try clear ao0
 try clear ao1
 try clear ao2
 try clear ao3
 try clear ao8
 try clear ao9
 try clear ap2
 try clear ap3
 try clear ap4
 try clear ap5
 try clear aq0
 try clear aq1
 try clear aq2
 try clear aq3
 try clear aq8
 try clear aq9
 try clear ar2
 try clear ar3
 try clear ar4
 try clear ar5
 try clear as0
 try clear as1
 try clear as2
 try clear as3
 try clear as8
 try clear as9
 try clear at2
 try clear at3
 try clear at4
 try clear at5
 try clear au0
 try clear au1
 try clear au4
 try clear au5
 try clear au6
 try clear au7
 try clear ak2
 try clear ak3
 try clear ak8
 try clear ak9
 try clear al0
 try clear al1
 try clear al4
 try clear al5
 try clear am0
 try clear am1
 try clear am2
 try clear am3
 try clear am6
 try clear am7
 try clear an2
 try clear an3
 try clear an4
 try clear an5
 try clear an8
 try clear an9
 try clear ao4
 try clear ao5
 try clear ao6
 try clear ao7
 try clear ap0
 try clear ap1
 try clear ap6
 try clear ap7
 try clear ap8
 try clear ap9
 try clear aq4
 try clear aq5
 try clear aq6
 try clear aq7
 try clear ar0
 try clear ar1
 try clear ar6
 try clear ar7
 try clear ar8
 try clear ar9
 try clear as4
 try clear as5
 try clear as6
 try clear as7
 try clear at0
 try clear at1
 try clear at6
 try clear at7
 try clear at8
 try clear at9
 try clear au2
 try clear au3
 try clear au8
 try clear au9
 try clear av0
 try clear av1
 obtain ⟨kq, z5, rfl, HA, HJ406, a3, a5, a6, a7, b4, b5, b8, c2, c6, d3, HB⟩ := hcut
 (try clear ak0); (try clear ak1); (try clear ak2); (try clear ak3); (try clear ak4); (try clear ak5); (try clear ak6); (try clear ak7); (try clear ak8); (try clear ak9); (try clear al0); (try clear al1); (try clear al2); (try clear al3); (try clear al4); (try clear al5); (try clear al6); (try clear al7); (try clear al8); (try clear al9); (try clear am0); (try clear am1); (try clear am2); (try clear am3); (try clear am4); (try clear am5); (try clear am6); (try clear am7); (try clear am8); (try clear am9); (try clear an0); (try clear an1); (try clear an2); (try clear an3); (try clear an4); (try clear an5); (try clear an6); (try clear an7); (try clear an8); (try clear an9); (try clear ao0); (try clear ao1); (try clear ao2); (try clear ao3); (try clear ao4); (try clear ao5); (try clear ao6); (try clear ao7); (try clear ao8); (try clear ao9); (try clear ap0); (try clear ap1); (try clear ap2); (try clear ap3); (try clear ap4); (try clear ap5); (try clear ap6); (try clear ap7); (try clear ap8); (try clear ap9); (try clear aq0); (try clear aq1); (try clear aq2); (try clear aq3); (try clear aq4); (try clear aq5); (try clear aq6); (try clear aq7); (try clear aq8); (try clear aq9); (try clear ar0); (try clear ar1); (try clear ar2); (try clear ar3); (try clear ar4); (try clear ar5); (try clear ar6); (try clear ar7); (try clear ar8); (try clear ar9); (try clear as0); (try clear as1); (try clear as2); (try clear as3); (try clear as4); (try clear as5); (try clear as6); (try clear as7); (try clear as8); (try clear as9); (try clear at0); (try clear at1); (try clear at2); (try clear at3); (try clear at4); (try clear at5); (try clear at6); (try clear at7); (try clear at8); (try clear at9); (try clear au0); (try clear au1); (try clear au2); (try clear au3); (try clear au4); (try clear au5); (try clear au6); (try clear au7); (try clear au8); (try clear au9); (try clear av0); (try clear av1); (try clear dr0); (try clear dr1); (try clear dr2); (try clear dr3); (try clear dr4); (try clear dr5); (try clear dr6); (try clear dr7); (try clear dr8); (try clear dr9); (try clear ds0); (try clear ds1); (try clear ds2); (try clear ds3); (try clear ds4); (try clear ds5); (try clear ds6); (try clear ds7); (try clear ds8); (try clear ds9); (try clear dt0); (try clear dt1); (try clear dt2); (try clear dt3); (try clear dt4); (try clear dt5); (try clear dt6); (try clear dt7); (try clear dt8); (try clear dt9); (try clear du0); (try clear du1); (try clear du2); (try clear du3); (try clear du4); (try clear du5); (try clear du6); (try clear du7); (try clear du8); (try clear du9); (try clear dv0); (try clear dv1); (try clear dv2); (try clear dv3); (try clear dv4); (try clear dv5); (try clear dv6); (try clear dv7); (try clear dv8); (try clear dv9); (try clear dw0); (try clear dw1); (try clear dw2); (try clear dw3); (try clear dw4); (try clear dw5); (try clear dw6); (try clear dw7); (try clear dw8); (try clear dw9); (try clear dx0); (try clear dx1); (try clear dx2); (try clear dx3); (try clear dx4); (try clear dx5); (try clear dx6); (try clear dx7); (try clear dx8); (try clear dx9); (try clear dy0); (try clear dy1); (try clear dy2); (try clear dy3); (try clear dy4); (try clear dy5); (try clear dy6); (try clear dy7)
 cases kq with
 | zero => exact absurd HA.out (by simp [laws_FnBeamsGo.j13])
 | succ bl0 => (
 as_aux_lemma => (
 have H := HA.out
 clear HA
 simp only [laws_FnBeamsGo.j13] at H
 by_cases a65 : z5 = true
 ·(
 subst a65
 rw [if_pos rfl] at H
 exact fy HT_l H
 )
 replace a65 := Bool.eq_false_iff.mpr a65
 subst a65
 rw [if_neg nft] at H
 have a66 := Aside0.mk H
 clear H
 repeat (go_not_at_if 711; first | go_skip | go_guarded | go_step | go_upon)
 go_cut [711] from 711 to 711 (fun gj7 wc => ∃ (kq : Nat), Aside0 (laws_FnBeamsGo.j14 kq n4 F7 S1 S2 g3 g4 j7 j8 k6 k7 n5 n6 p0 p1 = some r) ∧ Aside0 (kq ≤ bl0) ∧ Aside0 (wc.heap[e8]? = some (.cells #[.int .i64 b9, .int .i64 b6] 28 (0, 0))) ∧ Aside0 (wc.heap[h4]? = some (.cells #[.int .i64 c7, .int .i64 c8, .bool c9, .bool d0] 30 (0, 0))) ∧ Aside0 (wc.heap[h0]? = some (.cells #[.int .i64 g6, .int .i64 g7, .bool g8, .bool g9] 30 (0, 0))) ∧ Aside0 (wc.heap[e2]? = some (.cells #[.int .i64 h7, .int .i64 h8, .bool h9, .bool i0] 30 (0, 0))) ∧ Aside0 (wc.heap[G7]? = some (.cells #[.int .i64 m5, .int .i64 m6] 28 (0, 0))) ∧ Aside0 (wc.heap[G8]? = some (.cells #[.int .i64 m7, .int .i64 m8, .bool m9, .bool n0] 30 (0, 0))) ∧ Aside0 (wc.heap[q6]? = some (.cells #[.int .i64 g3, .int .i64 g4] 28 (0, 0))) ∧ Aside0 (wc.heap[G9]? = some (.cells #[.int .i64 j7, .int .i64 j8, .bool k6, .bool k7] 30 (0, 0))) ∧ Aside0 (wc.heap[I0]? = some (.cells #[.int .i64 n5, .int .i64 n6, .bool p0, .bool p1] 30 (0, 0))) ∧ Aside0 (wc.heap[I1]? = some (.cells #[.int .i64 y9, .int .i64 z2, .bool z3, .bool z4] 30 (0, 0))) ∧ Aside0 (Below w.heap.size w wc))
 case first => (
 as_aux_lemma => (
 have H := a66.out
 clear a66
 by_cases a67 : J6 = true
 ·(
 subst a67
 rw [if_pos rfl] at H
 replace H := Option.bind_eq_some_iff.mp H; obtain ⟨⟨bh5, bh6, cc2, cc3, cc4⟩, b53, H⟩ := H; (try dsimp only at H); have cc5 := Aside0.mk b53; clear b53
 by_cases a68 : F6 < 0
 ·(
 rw [if_pos a68] at H
 exact fy HT_l H
 )
 rw [if_neg a68] at H
 have ac5 : decide (F6 < 0) = false := decide_eq_false a68
 clear a68
 (first | rw [ac5] | (simp only [i64_w, i32_w]; rw [ac5]) | skip)
 by_cases a69 : cc4 = true
 ·(
 subst a69
 rw [if_pos rfl] at H
 by_cases a70 : bh5 = uz1
 ·(
 rw [if_pos a70] at H
 obtain ⟨e83, e84⟩ := yE a70
 clear a70
 by_cases a71 : bh6 = uz2
 ·(
 rw [if_pos a71] at H
 obtain ⟨e85, e86⟩ := yE a71
 clear a71
 have H' := Aside0.mk H
 clear H
 have e87 := K3.out
 have e88 := K2.out
 have e89 := K5.out
 have e90 := K4.out
 have e91 := K7.out
 have e92 := K6.out
 have e93 := K9.out
 have e94 := K8.out
 have e95 := L8.out
 have e96 := L9.out
 have e97 := k1.out
 have e98 := k2.out
 have e99 := v2.out
 have ea0 := v3.out
 have ea1 := n7.out
 have ea2 := n8.out
 have ea3 := v6.out
 have ea4 := v7.out
 obtain ⟨cc6, cc7, cc8, cc9⟩ := cf2 b4
 have ea5 := L1.out
 have ea6 := L0.out
 have ea7 := L3.out
 have ea8 := L2.out
 have ea9 := L5.out
 have eb0 := L4.out
 have eb1 := L7.out
 have eb2 := L6.out
 have eb3 := k3.out
 have eb4 := k4.out
 have eb5 := v4.out
 have eb6 := v5.out
 have eb7 := n9.out
 have eb8 := o0.out
 have eb9 := v8.out
 have ec0 := v9.out
 obtain ⟨cd0, cd1, cd2, cd3, cd4, cd5, cd6, cd7⟩ := cf4 b5
 repeat (go_not_at_region 14; go_not_at_region 20; go_not_at_region 29; go_not_at_region 30; go_not_at_region 45; go_not_at_region 83; go_not_at_region 86; first | ((with_reducible refine gate_callee (f := 26) rfl ?_); refine goesL_ (some 716) rfl rfl Try.func26 kr rfl #[.agg #[.int .i64 m5, .int .i64 m6], .agg #[.int .i64 m7, .int .i64 m8, .bool m9, .bool n0], .int .i64 F6] rfl sM ?_; (with_reducible refine (impl_BeamAfter.calls m5 m6 m7 m8 m9 n0 F6 bh5 bh6 cc2 cc3 true _ cc5.out).mono ?_); rintro e gj8 ⟨rfl, hb⟩; refine ⟨_, rfl, ?_⟩; replace a3 := bQ a3 hb; replace a5 := bQ a5 hb; replace a6 := bQ a6 hb; replace a7 := bQ a7 hb; replace b4 := bQ b4 hb; replace b5 := bQ b5 hb; replace b8 := bQ b8 hb; replace c2 := bQ c2 hb; replace c6 := bQ c6 hb; replace d3 := bQ d3 hb; replace HB := Aside0.mk (below_step bB hb); (try clear hb)) | ((with_reducible refine gate_dst (N := 71) rfl ?_); refine box_ (cs := #[.int .i64 0, .int .i64 0, .bool false, .bool false]) (t := 30) fun gf2 hg gj9 hbox hb => ?_; have bl1 := Aside0.mk (hbox); have gf3 := bS HB hg; have gf4 := bS HB hg; have ac6 := bL a3 hg; have ac7 := bM a3 hg; have ac8 := bL a5 hg; have ac9 := bM a5 hg; have ad0 := bL a6 hg; have ad1 := bM a6 hg; have ad2 := bL a7 hg; have ad3 := bM a7 hg; have ad4 := bL b4 hg; have ad5 := bM b4 hg; have ad6 := bL b5 hg; have ad7 := bM b5 hg; have ad8 := bL b8 hg; have ad9 := bM b8 hg; have ae0 := bL c2 hg; have ae1 := bM c2 hg; have ae2 := bL c6 hg; have ae3 := bM c6 hg; have ae4 := bL d3 hg; have ae5 := bM d3 hg; replace a3 := bQ a3 hb; replace a5 := bQ a5 hb; replace a6 := bQ a6 hb; replace a7 := bQ a7 hb; replace b4 := bQ b4 hb; replace b5 := bQ b5 hb; replace b8 := bQ b8 hb; replace c2 := bQ c2 hb; replace c6 := bQ c6 hb; replace d3 := bQ d3 hb; replace HB := Aside0.mk (below_step bB hb); clear hb hbox hg; have ec1 := ac7.out; have ec2 := ac6.out; have ec3 := ac9.out; have ec4 := ac8.out; have ec5 := ad1.out; have ec6 := ad0.out; have ec7 := ad3.out; have ec8 := ad2.out; have ec9 := ad5.out; have ed0 := ad4.out; have ed1 := ad7.out; have ed2 := ad6.out; have ed3 := ad9.out; have ed4 := ad8.out; have ed5 := ae1.out; have ed6 := ae0.out; have ed7 := ae3.out; have ed8 := ae2.out; have ed9 := ae5.out; have ee0 := ae4.out; obtain ⟨cd8, cd9, ce0, ce1, ce2, ce3, ce4, ce5⟩ := cf4 bl1) | go_skip | go_guarded | go_step | go_upon)
 go_meet
 case rel => exact ⟨_, H', ⟨laws_FnBeamsGo.jx⟩, (bA a3), (bA a5), (bA a6), (bA a7), (bA b4), (bA b5), (bA b8), (bA c2), (bA c6), (bA d3), ⟨bB⟩⟩
 )
 rw [if_neg a71] at H
 exact fy HT_l H
 )
 rw [if_neg a70] at H
 exact fy HT_l H
 )
 replace a69 := Bool.eq_false_iff.mpr a69
 subst a69
 rw [if_neg nft] at H
 exact fy HT_l H
 )
 replace a67 := Bool.eq_false_iff.mpr a67
 subst a67
 rw [if_neg nft] at H
 have H' := Aside0.mk H
 clear H
 repeat (go_not_at_region 14; go_not_at_region 20; go_not_at_region 29; go_not_at_region 30; go_not_at_region 45; go_not_at_region 83; go_not_at_region 86; first | go_skip | go_guarded | go_step | go_upon)
 go_meet
 case rel => exact ⟨_, H', ⟨laws_FnBeamsGo.jx⟩, (bA a3), (bA a5), (bA a6), (bA a7), (bA b4), (bA b5), (bA b8), (bA c2), (bA c6), (bA d3), ⟨bB⟩⟩
 )
 )
 clear a66
 obtain ⟨kq, HA, HJ531, a3, a5, a6, a7, b4, b5, b8, c2, c6, d3, HB⟩ := hcut
 cases kq with
 | zero => exact absurd HA.out (by simp [laws_FnBeamsGo.j14])
 | succ N4 => (
 as_aux_lemma => (
 have H := HA.out
 clear HA
 simp only [laws_FnBeamsGo.j14] at H
 by_cases S3 : F7 = true
 ·(
 subst S3
 rw [if_pos rfl] at H
 replace H := Option.bind_eq_some_iff.mp H; obtain ⟨⟨av2, av3⟩, b54, H⟩ := H; (try dsimp only at H); have ce6 := Aside0.mk b54; clear b54
 replace H := Option.bind_eq_some_iff.mp H; obtain ⟨⟨C4, C5, C6, C7, bh7⟩, b55, H⟩ := H; (try dsimp only at H); have ce7 := Aside0.mk b55; clear b55
 have a72 := Aside0.mk H
 clear H
 have ee1 := l4.out
 have ee2 := l3.out
 have ee3 := l6.out
 have ee4 := l5.out
 have ee5 := l8.out
 have ee6 := l7.out
 have ee7 := m0.out
 have ee8 := l9.out
 have ee9 := k2.out
 have ef0 := k1.out
 have ef1 := k4.out
 have ef2 := k3.out
 have ef3 := m1.out
 have ef4 := m2.out
 have ef5 := j0.out
 have ef6 := j1.out
 have ef7 := j2.out
 have ef8 := j3.out
 obtain ⟨av4, av5, av6, av7⟩ := cf2 b8
 have ef9 := A4.out
 have eg0 := A2.out
 have eg1 := B1.out
 have eg2 := B0.out
 have eg3 := B3.out
 have eg4 := B2.out
 have eg5 := B5.out
 have eg6 := B4.out
 have eg7 := v3.out
 have eg8 := v2.out
 have eg9 := v5.out
 have eh0 := v4.out
 have eh1 := o1.out
 have eh2 := o2.out
 have eh3 := r1.out
 have eh4 := r2.out
 obtain ⟨av8, av9, aw0, aw1, aw2, aw3, aw4, aw5⟩ := cf4 c2
 go_upto_region 77 with (first | ((with_reducible refine gate_callee (f := 15) rfl ?_); refine goesL_ (some 741) rfl rfl Try.func15 kr rfl #[.agg #[.int .i64 g3, .int .i64 g4], .agg #[.int .i64 j7, .int .i64 j8, .bool k6, .bool k7]] rfl sM ?_; (with_reducible refine (impl_StepsToCorner.calls g3 g4 j7 j8 k6 k7 av2 av3 _ ce6.out).mono ?_); rintro e gk0 ⟨rfl, hb⟩; refine ⟨_, rfl, ?_⟩; replace a3 := bQ a3 hb; replace a5 := bQ a5 hb; replace a6 := bQ a6 hb; replace a7 := bQ a7 hb; replace b4 := bQ b4 hb; replace b5 := bQ b5 hb; replace b8 := bQ b8 hb; replace c2 := bQ c2 hb; replace c6 := bQ c6 hb; replace d3 := bQ d3 hb; replace HB := Aside0.mk (below_step bB hb); (try clear hb); obtain ⟨aw6, aw7, aw8, aw9⟩ := cf2 b8; obtain ⟨ax0, ax1, ax2, ax3, ax4, ax5, ax6, ax7⟩ := cf4 c2) | ((with_reducible refine gate_callee (f := 26) rfl ?_); refine goesL_ (some 747) rfl rfl Try.func26 kr rfl #[.agg #[.int .i64 g3, .int .i64 g4], .agg #[.int .i64 j7, .int .i64 j8, .bool k6, .bool k7], .int .i64 0] rfl sM ?_; (with_reducible refine (impl_BeamAfter.calls g3 g4 j7 j8 k6 k7 0 C4 C5 C6 C7 bh7 _ ce7.out).mono ?_); rintro e gk1 ⟨rfl, hb⟩; refine ⟨_, rfl, ?_⟩; replace a3 := bQ a3 hb; replace a5 := bQ a5 hb; replace a6 := bQ a6 hb; replace a7 := bQ a7 hb; replace b4 := bQ b4 hb; replace b5 := bQ b5 hb; replace b8 := bQ b8 hb; replace c2 := bQ c2 hb; replace c6 := bQ c6 hb; replace d3 := bQ d3 hb; replace HB := Aside0.mk (below_step bB hb); (try clear hb)) | ((with_reducible refine gate_dst (N := 75) rfl ?_); refine box_ (cs := #[.int .i64 0, .int .i64 0, .bool false, .bool false]) (t := 30) fun a73 hg gk2 hbox hb => ?_; have h6 := Aside0.mk (hbox); have gf5 := bS HB hg; have gf6 := bS HB hg; have M0 := bL a3 hg; have M1 := bM a3 hg; have M2 := bL a5 hg; have M3 := bM a5 hg; have M4 := bL a6 hg; have M5 := bM a6 hg; have M6 := bL a7 hg; have M7 := bM a7 hg; have M8 := bL b4 hg; have M9 := bM b4 hg; have N0 := bL b5 hg; have N1 := bM b5 hg; have o3 := bL b8 hg; have o4 := bM b8 hg; have C8 := bL c2 hg; have C9 := bM c2 hg; have r3 := bL c6 hg; have r4 := bM c6 hg; have N2 := bL d3 hg; have N3 := bM d3 hg; replace a3 := bQ a3 hb; replace a5 := bQ a5 hb; replace a6 := bQ a6 hb; replace a7 := bQ a7 hb; replace b4 := bQ b4 hb; replace b5 := bQ b5 hb; replace b8 := bQ b8 hb; replace c2 := bQ c2 hb; replace c6 := bQ c6 hb; replace d3 := bQ d3 hb; replace HB := Aside0.mk (below_step bB hb); clear hb hbox hg; have eh5 := M1.out; have eh6 := M0.out; have eh7 := M3.out; have eh8 := M2.out; have eh9 := M5.out; have ei0 := M4.out; have ei1 := M7.out; have ei2 := M6.out; have ei3 := M9.out; have ei4 := M8.out; have ei5 := N1.out; have ei6 := N0.out; have ei7 := o4.out; have ei8 := o3.out; have ei9 := C9.out; have ej0 := C8.out; have ej1 := r4.out; have ej2 := r3.out; have ej3 := N3.out; have ej4 := N2.out; obtain ⟨ax8, ax9, ay0, ay1, ay2, ay3, ay4, ay5⟩ := cf4 h6))
 (try simp only [Act.put, List.setIfInBounds_toArray, List.set_cons_zero, List.set_cons_succ])
 go_cut [775] from 775 to 775 (fun ce8 wc => ∃ (kq : Nat) (z6 : Bool), ce8 = .bool z6 ∧ Aside0 (laws_FnBeamsGo.j15 kq n4 av2 av3 z6 g3 g4 n5 n6 p0 p1 C4 C5 C6 C7 = some r) ∧ Aside0 (kq ≤ N4) ∧ Aside0 (wc.heap[e8]? = some (.cells #[.int .i64 b9, .int .i64 b6] 28 (0, 0))) ∧ Aside0 (wc.heap[h4]? = some (.cells #[.int .i64 c7, .int .i64 c8, .bool c9, .bool d0] 30 (0, 0))) ∧ Aside0 (wc.heap[h0]? = some (.cells #[.int .i64 g6, .int .i64 g7, .bool g8, .bool g9] 30 (0, 0))) ∧ Aside0 (wc.heap[e2]? = some (.cells #[.int .i64 h7, .int .i64 h8, .bool h9, .bool i0] 30 (0, 0))) ∧ Aside0 (wc.heap[G7]? = some (.cells #[.int .i64 m5, .int .i64 m6] 28 (0, 0))) ∧ Aside0 (wc.heap[G8]? = some (.cells #[.int .i64 m7, .int .i64 m8, .bool m9, .bool n0] 30 (0, 0))) ∧ Aside0 (wc.heap[q6]? = some (.cells #[.int .i64 g3, .int .i64 g4] 28 (0, 0))) ∧ Aside0 (wc.heap[G9]? = some (.cells #[.int .i64 j7, .int .i64 j8, .bool k6, .bool k7] 30 (0, 0))) ∧ Aside0 (wc.heap[I0]? = some (.cells #[.int .i64 n5, .int .i64 n6, .bool p0, .bool p1] 30 (0, 0))) ∧ Aside0 (wc.heap[I1]? = some (.cells #[.int .i64 y9, .int .i64 z2, .bool z3, .bool z4] 30 (0, 0))) ∧ Aside0 (wc.heap[a73]? = some (.cells #[.int .i64 C4, .int .i64 C5, .bool C6, .bool C7] 30 (0, 0))) ∧ Aside0 (Below w.heap.size w wc))
 case first => (
 as_aux_lemma => (
 have H := a72.out
 clear a72
 by_cases a74 : bh7 = true
 ·(
 subst a74
 rw [if_pos rfl] at H
 replace H := Option.bind_eq_some_iff.mp H; obtain ⟨ce9, b56, H⟩ := H; (try dsimp only at H); have cf0 := Aside0.mk b56; clear b56
 by_cases a75 : ce9 = true
 ·(
 subst a75
 rw [if_pos rfl] at H
 replace H := Option.bind_eq_some_iff.mp H; obtain ⟨bh8, b57, H⟩ := H; (try dsimp only at H); have cf1 := Aside0.mk b57; clear b57
 by_cases a76 : bh8 = n4
 ·(
 rw [if_pos a76] at H
 obtain ⟨ae6, ej5⟩ := yE a76
 clear a76
 (first | rw [ae6] | (simp only [i64_w, i32_w]; rw [ae6]) | skip)
 replace H := Option.bind_eq_some_iff.mp H; obtain ⟨bh9, b58, H⟩ := H; (try dsimp only at H); have cf3 := Aside0.mk b58; clear b58
 have H' := Aside0.mk H
 clear H
 have ej6 := l4.out
 have ej7 := l3.out
 have ej8 := l6.out
 have ej9 := l5.out
 have ek0 := l8.out
 have ek1 := l7.out
 have ek2 := m0.out
 have ek3 := l9.out
 have ek4 := k2.out
 have ek5 := k1.out
 have ek6 := k4.out
 have ek7 := k3.out
 have ek8 := m1.out
 have ek9 := m2.out
 have el0 := j0.out
 have el1 := j1.out
 have el2 := j2.out
 have el3 := j3.out
 have el4 := o3.out
 have el5 := o4.out
 obtain ⟨cf5, cf6, cf7, cf8⟩ := cf2 b8
 have el6 := p5.out
 have el7 := p4.out
 have el8 := p7.out
 have el9 := p6.out
 have em0 := p9.out
 have em1 := p8.out
 have em2 := q1.out
 have em3 := q0.out
 have em4 := n8.out
 have em5 := n7.out
 have em6 := o0.out
 have em7 := n9.out
 have em8 := o2.out
 have em9 := o1.out
 have en0 := q2.out
 have en1 := q3.out
 have en2 := r3.out
 have en3 := r4.out
 obtain ⟨cf9, cg0, cg1, cg2, cg3, cg4, cg5, cg6⟩ := cf4 c6
 repeat (go_not_at_region 14; go_not_at_region 20; go_not_at_region 29; go_not_at_region 30; go_not_at_region 45; go_not_at_region 83; go_not_at_region 86; first | (go_at_call 22; (with_reducible refine (impl_IsBeam.calls g3 g4 n5 n6 p0 p1 true _ cf0.out).mono ?_); rintro e gk3 ⟨rfl, hb⟩; dsimp only; replace a3 := bQ a3 hb; replace a5 := bQ a5 hb; replace a6 := bQ a6 hb; replace a7 := bQ a7 hb; replace b4 := bQ b4 hb; replace b5 := bQ b5 hb; replace b8 := bQ b8 hb; replace c2 := bQ c2 hb; replace c6 := bQ c6 hb; replace d3 := bQ d3 hb; replace h6 := (bP (.cells #[.int .i64 C4, .int .i64 C5, .bool C6, .bool C7] 30 (0, 0)) h6 hb); replace HB := Aside0.mk (below_step bB hb); (try clear hb); have en4 := A4.out; have en5 := A2.out; have en6 := B1.out; have en7 := B0.out; have en8 := B3.out; have en9 := B2.out; have eo0 := B5.out; have eo1 := B4.out; have eo2 := v3.out; have eo3 := v2.out; have eo4 := v5.out; have eo5 := v4.out; have eo6 := r1.out; have eo7 := r2.out; have eo8 := C8.out; have eo9 := C9.out; obtain ⟨cg7, cg8, cg9, ch0, ch1, ch2, ch3, ch4⟩ := cf4 c2) | (go_at_call 25; (with_reducible refine (laws_jSize.calls (wrap64 (S1 - j7)) bh8 _ cf1.out).mono ?_); rintro e w' ⟨rfl, ⟨nd, rfl⟩⟩; dsimp only) | (go_at_call 25; (with_reducible refine (laws_jSize.calls (wrap64 (S2 - j8)) bh9 _ cf3.out).mono ?_); rintro e w' ⟨rfl, ⟨nd, rfl⟩⟩; dsimp only) | go_skip | go_guarded | go_step | go_upon)
 go_meet
 case rel => exact ⟨_, ((bh9 != n4)), sR, H', ⟨laws_FnBeamsGo.jx⟩, (bA a3), (bA a5), (bA a6), (bA a7), (bA b4), (bA b5), (bA b8), (bA c2), (bA c6), (bA d3), (bA h6), ⟨bB⟩⟩
 )
 rw [if_neg a76] at H
 exact absurd H (by cases N4 <;> simp [laws_FnBeamsGo.j15, HT_l.out])
 )
 replace a75 := Bool.eq_false_iff.mpr a75
 subst a75
 rw [if_neg nft] at H
 exact absurd H (by cases N4 <;> simp [laws_FnBeamsGo.j15, HT_l.out])
 )
 replace a74 := Bool.eq_false_iff.mpr a74
 subst a74
 rw [if_neg nft] at H
 exact absurd H (by cases N4 <;> simp [laws_FnBeamsGo.j15, HT_l.out])
 )
 )
 clear a72
 try clear S3
 try clear av4
 try clear av5
 try clear av8
 try clear av9
 try clear aw0
 try clear aw1
 try clear aw6
 try clear aw7
 try clear ax0
 try clear ax1
 try clear ax2
 try clear ax3
 try clear ax8
 try clear ax9
 try clear ay0
 try clear ay1
 try clear av6
 try clear av7
 try clear aw2
 try clear aw3
 try clear aw4
 try clear aw5
 try clear aw8
 try clear aw9
 try clear ax4
 try clear ax5
 try clear ax6
 try clear ax7
 try clear ay2
 try clear ay3
 try clear ay4
 try clear ay5
 obtain ⟨kq, z6, rfl, HA, HJ573, a3, a5, a6, a7, b4, b5, b8, c2, c6, d3, h6, HB⟩ := hcut
 (try clear ee1); (try clear ee2); (try clear ee3); (try clear ee4); (try clear ee5); (try clear ee6); (try clear ee7); (try clear ee8); (try clear ee9); (try clear ef0); (try clear ef1); (try clear ef2); (try clear ef3); (try clear ef4); (try clear ef5); (try clear ef6); (try clear ef7); (try clear ef8); (try clear av4); (try clear av5); (try clear av6); (try clear av7); (try clear ef9); (try clear eg0); (try clear eg1); (try clear eg2); (try clear eg3); (try clear eg4); (try clear eg5); (try clear eg6); (try clear eg7); (try clear eg8); (try clear eg9); (try clear eh0); (try clear eh1); (try clear eh2); (try clear eh3); (try clear eh4); (try clear av8); (try clear av9); (try clear aw0); (try clear aw1); (try clear aw2); (try clear aw3); (try clear aw4); (try clear aw5); (try clear aw6); (try clear aw7); (try clear aw8); (try clear aw9); (try clear ax0); (try clear ax1); (try clear ax2); (try clear ax3); (try clear ax4); (try clear ax5); (try clear ax6); (try clear ax7); (try clear ax8); (try clear ax9); (try clear ay0); (try clear ay1); (try clear ay2); (try clear ay3); (try clear ay4); (try clear ay5); (try clear eh5); (try clear eh6); (try clear eh7); (try clear eh8); (try clear eh9); (try clear ei0); (try clear ei1); (try clear ei2); (try clear ei3); (try clear ei4); (try clear ei5); (try clear ei6); (try clear ei7); (try clear ei8); (try clear ei9); (try clear ej0); (try clear ej1); (try clear ej2); (try clear ej3); (try clear ej4)
 cases kq with
 | zero => exact absurd HA.out (by simp [laws_FnBeamsGo.j15])
 | succ b59 => (
 as_aux_lemma => (
 have H := HA.out
 clear HA
 simp only [laws_FnBeamsGo.j15] at H
 by_cases a77 : z6 = true
 ·(
 subst a77
 rw [if_pos rfl] at H
 exact fy HT_l H
 )
 replace a77 := Bool.eq_false_iff.mpr a77
 subst a77
 rw [if_neg nft] at H
 replace H := Option.bind_eq_some_iff.mp H; obtain ⟨⟨a78, F8, ch5⟩, b60, H⟩ := H; (try dsimp only at H); have ch6 := Aside0.mk b60; clear b60
 by_cases S4 : ch5 = true
 ·(
 subst S4
 rw [if_pos rfl] at H
 have a79 := Aside0.mk H
 clear H
 have ep0 := l4.out
 have ep1 := l3.out
 have ep2 := l6.out
 have ep3 := l5.out
 have ep4 := l8.out
 have ep5 := l7.out
 have ep6 := m0.out
 have ep7 := l9.out
 have ep8 := k2.out
 have ep9 := k1.out
 have eq0 := k4.out
 have eq1 := k3.out
 have eq2 := m1.out
 have eq3 := m2.out
 have eq4 := j0.out
 have eq5 := j1.out
 have eq6 := j2.out
 have eq7 := j3.out
 have eq8 := o3.out
 have eq9 := o4.out
 obtain ⟨ay6, ay7, ay8, ay9⟩ := cf2 b8
 have er0 := M1.out
 have er1 := M0.out
 have er2 := M3.out
 have er3 := M2.out
 have er4 := M5.out
 have er5 := M4.out
 have er6 := M7.out
 have er7 := M6.out
 have er8 := M9.out
 have er9 := M8.out
 have es0 := N1.out
 have es1 := N0.out
 have es2 := C9.out
 have es3 := C8.out
 have es4 := r4.out
 have es5 := r3.out
 have es6 := N3.out
 have es7 := N2.out
 obtain ⟨az0, az1, az2, az3, az4, az5, az6, az7⟩ := cf4 h6
 go_upto_region 82 with (first | ((with_reducible refine gate_callee (f := 32) rfl ?_); refine goesL_ (some 780) rfl rfl Try.func32 kr rfl #[.agg #[.int .i64 g3, .int .i64 g4], .agg #[.int .i64 C4, .int .i64 C5, .bool C6, .bool C7], .int .i64 n4] rfl sM ?_; (with_reducible refine (impl_UnfoldedPlace.calls b59 g3 g4 C4 C5 C6 C7 n4 a78 F8 true _ ch6.out).mono ?_); rintro e gk4 ⟨rfl, hb⟩; refine ⟨_, rfl, ?_⟩; replace a3 := bQ a3 hb; replace a5 := bQ a5 hb; replace a6 := bQ a6 hb; replace a7 := bQ a7 hb; replace b4 := bQ b4 hb; replace b5 := bQ b5 hb; replace b8 := bQ b8 hb; replace c2 := bQ c2 hb; replace c6 := bQ c6 hb; replace d3 := bQ d3 hb; replace h6 := bQ h6 hb; replace HB := Aside0.mk (below_step bB hb); (try clear hb)))
 (try simp only [Act.put, List.setIfInBounds_toArray, List.set_cons_zero, List.set_cons_succ])
 go_cut [792] from 792 to 792 (fun ch7 wc => ∃ (kq : Nat) (z7 : Bool), ch7 = .bool z7 ∧ Aside0 (laws_FnBeamsGo.j16 kq a78 F8 z7 g3 g4 n5 n6 p0 p1 = some r) ∧ Aside0 (kq ≤ b59) ∧ Aside0 (wc.heap[e8]? = some (.cells #[.int .i64 b9, .int .i64 b6] 28 (0, 0))) ∧ Aside0 (wc.heap[h4]? = some (.cells #[.int .i64 c7, .int .i64 c8, .bool c9, .bool d0] 30 (0, 0))) ∧ Aside0 (wc.heap[h0]? = some (.cells #[.int .i64 g6, .int .i64 g7, .bool g8, .bool g9] 30 (0, 0))) ∧ Aside0 (wc.heap[e2]? = some (.cells #[.int .i64 h7, .int .i64 h8, .bool h9, .bool i0] 30 (0, 0))) ∧ Aside0 (wc.heap[G7]? = some (.cells #[.int .i64 m5, .int .i64 m6] 28 (0, 0))) ∧ Aside0 (wc.heap[G8]? = some (.cells #[.int .i64 m7, .int .i64 m8, .bool m9, .bool n0] 30 (0, 0))) ∧ Aside0 (wc.heap[q6]? = some (.cells #[.int .i64 g3, .int .i64 g4] 28 (0, 0))) ∧ Aside0 (wc.heap[G9]? = some (.cells #[.int .i64 j7, .int .i64 j8, .bool k6, .bool k7] 30 (0, 0))) ∧ Aside0 (wc.heap[I0]? = some (.cells #[.int .i64 n5, .int .i64 n6, .bool p0, .bool p1] 30 (0, 0))) ∧ Aside0 (wc.heap[I1]? = some (.cells #[.int .i64 y9, .int .i64 z2, .bool z3, .bool z4] 30 (0, 0))) ∧ Aside0 (wc.heap[a73]? = some (.cells #[.int .i64 C4, .int .i64 C5, .bool C6, .bool C7] 30 (0, 0))) ∧ Aside0 (Below w.heap.size w wc))
 case first => (
 as_aux_lemma => (
 have H := a79.out
 clear a79
 by_cases a80 : av3 = true
 ·(
 subst a80
 rw [if_pos rfl] at H
 have H' := Aside0.mk H
 clear H
 repeat (go_not_at_region 14; go_not_at_region 20; go_not_at_region 29; go_not_at_region 30; go_not_at_region 45; go_not_at_region 83; go_not_at_region 86; first | go_skip | go_guarded | go_step | go_upon)
 go_meet
 case rel => exact ⟨_, (decide (n4 ≤ av2)), sR, H', ⟨laws_FnBeamsGo.jx⟩, (bA a3), (bA a5), (bA a6), (bA a7), (bA b4), (bA b5), (bA b8), (bA c2), (bA c6), (bA d3), (bA h6), ⟨bB⟩⟩
 )
 replace a80 := Bool.eq_false_iff.mpr a80
 subst a80
 rw [if_neg nft] at H
 have H' := Aside0.mk H
 clear H
 repeat (go_not_at_region 14; go_not_at_region 20; go_not_at_region 29; go_not_at_region 30; go_not_at_region 45; go_not_at_region 83; go_not_at_region 86; first | go_skip | go_guarded | go_step | go_upon)
 go_meet
 case rel => exact ⟨_, (true), sR, H', ⟨laws_FnBeamsGo.jx⟩, (bA a3), (bA a5), (bA a6), (bA a7), (bA b4), (bA b5), (bA b8), (bA c2), (bA c6), (bA d3), (bA h6), ⟨bB⟩⟩
 )
 )
 clear a79
 try clear S4
 try clear ay6
 try clear ay7
 try clear az0
 try clear az1
 try clear az2
 try clear az3
 try clear ay8
 try clear ay9
 try clear az4
 try clear az5
 try clear az6
 try clear az7
 obtain ⟨kq, z7, rfl, HA, HJ649, a3, a5, a6, a7, b4, b5, b8, c2, c6, d3, h6, HB⟩ := hcut
 (try clear ep0); (try clear ep1); (try clear ep2); (try clear ep3); (try clear ep4); (try clear ep5); (try clear ep6); (try clear ep7); (try clear ep8); (try clear ep9); (try clear eq0); (try clear eq1); (try clear eq2); (try clear eq3); (try clear eq4); (try clear eq5); (try clear eq6); (try clear eq7); (try clear eq8); (try clear eq9); (try clear ay6); (try clear ay7); (try clear ay8); (try clear ay9); (try clear er0); (try clear er1); (try clear er2); (try clear er3); (try clear er4); (try clear er5); (try clear er6); (try clear er7); (try clear er8); (try clear er9); (try clear es0); (try clear es1); (try clear es2); (try clear es3); (try clear es4); (try clear es5); (try clear es6); (try clear es7); (try clear az0); (try clear az1); (try clear az2); (try clear az3); (try clear az4); (try clear az5); (try clear az6); (try clear az7)
 cases kq with
 | zero => exact absurd HA.out (by simp [laws_FnBeamsGo.j16])
 | succ bl2 => (
 as_aux_lemma => (
 have H := HA.out
 clear HA
 simp only [laws_FnBeamsGo.j16] at H
 by_cases S5 : z7 = true
 ·(
 subst S5
 rw [if_pos rfl] at H
 replace H := Option.bind_eq_some_iff.mp H; obtain ⟨J7, b61, H⟩ := H; (try dsimp only at H); have ch8 := Aside0.mk b61; clear b61
 by_cases a81 : (wrap64 (2 * g3)) = 0
 ·(
 rw [if_pos a81] at H
 exact absurd H (by simp)
 )
 rw [if_neg a81] at H
 obtain ⟨bi0, bi1⟩ := nE a81
 have a82 := Aside0.mk H
 clear H
 repeat (go_not_at_region 14; go_not_at_region 20; go_not_at_region 29; go_not_at_region 30; go_not_at_region 45; go_not_at_region 83; go_not_at_region 86; first | go_skip | go_guarded | go_step | go_upon)
 replace a3 := bD1 a3
 replace a5 := bD1 a5
 replace a6 := bD1 a6
 replace a7 := bD1 a7
 replace b4 := bD1 b4
 replace b5 := bD1 b5
 replace b8 := bD1 b8
 replace c2 := bD1 c2
 replace c6 := bD1 c6
 replace d3 := bD1 d3
 replace h6 := bD1 h6
 replace HB := Aside0.mk (below_drew1 HB.out)
 refine st0_ 7 laws_FnBeamsGo.pl14 (S := fun w' => w'.cell? ⟨q6, 0, none⟩ = some (.int .i64 g3) ∧ w'.cell? ⟨q6, 1, none⟩ = some (.int .i64 g4)) (ds := []) cS (fun hHeld HT_ HW_ => ?_)
 generalize wc.drew = gk5 at a3 a5 a6 a7 b4 b5 b8 c2 c6 d3 h6 HB hHeld ⊢
 iterate 4 (first | refine qA HT_ ?_ | refine qU HT_ hHeld ?_)
 refine pO HT_ fun K hK => ?_
 refine goes_ Try.func25 kr rfl #[.int .i64 a78] (by rfl) rfl rfl sM ?_
 with_reducible refine (laws_jSize.calls a78 J7 _ ch8.out).mono ?_
 rintro e w' ⟨rfl, ⟨nd, rfl⟩⟩
 refine ⟨_, rfl, ?_⟩
 refine hK.out _ _ cS (fun hHeld => ?_)
 clear hK K
 refine nP ?_
 iterate 2 refine qA HT_ ?_
 refine pD HT_ ?_
 have es8 := l4.out
 have es9 := l3.out
 have et0 := l6.out
 have et1 := l5.out
 have et2 := l8.out
 have et3 := l7.out
 have et4 := m0.out
 have et5 := l9.out
 have et6 := k2.out
 have et7 := k1.out
 have et8 := k4.out
 have et9 := k3.out
 have eu0 := m1.out
 have eu1 := m2.out
 have eu2 := j0.out
 have eu3 := j1.out
 have eu4 := j2.out
 have eu5 := j3.out
 have eu6 := o3.out
 have eu7 := o4.out
 obtain ⟨az8, az9, b00, b01⟩ := cf2 b8
 repeat (go_not_at_if 802; first | go_skip | go_guarded | go_step | go_upon)
 go_cut [77, 802] from 77 to 77 (fun v77 gk6 wc => ∃ (kq : Nat) (y3 : Int), v77 = .int .i64 y3 ∧ Aside0 (laws_FnBeamsGo.j17 kq y3 F8 g3 g4 n5 n6 p0 p1 = some r) ∧ Aside0 (kq ≤ bl2) ∧ Aside0 (wc.heap[e8]? = some (.cells #[.int .i64 b9, .int .i64 b6] 28 (0, 0))) ∧ Aside0 (wc.heap[h4]? = some (.cells #[.int .i64 c7, .int .i64 c8, .bool c9, .bool d0] 30 (0, 0))) ∧ Aside0 (wc.heap[h0]? = some (.cells #[.int .i64 g6, .int .i64 g7, .bool g8, .bool g9] 30 (0, 0))) ∧ Aside0 (wc.heap[e2]? = some (.cells #[.int .i64 h7, .int .i64 h8, .bool h9, .bool i0] 30 (0, 0))) ∧ Aside0 (wc.heap[G7]? = some (.cells #[.int .i64 m5, .int .i64 m6] 28 (0, 0))) ∧ Aside0 (wc.heap[G8]? = some (.cells #[.int .i64 m7, .int .i64 m8, .bool m9, .bool n0] 30 (0, 0))) ∧ Aside0 (wc.heap[q6]? = some (.cells #[.int .i64 g3, .int .i64 g4] 28 (0, 0))) ∧ Aside0 (wc.heap[G9]? = some (.cells #[.int .i64 j7, .int .i64 j8, .bool k6, .bool k7] 30 (0, 0))) ∧ Aside0 (wc.heap[I0]? = some (.cells #[.int .i64 n5, .int .i64 n6, .bool p0, .bool p1] 30 (0, 0))) ∧ Aside0 (wc.heap[I1]? = some (.cells #[.int .i64 y9, .int .i64 z2, .bool z3, .bool z4] 30 (0, 0))) ∧ Aside0 (wc.heap[a73]? = some (.cells #[.int .i64 C4, .int .i64 C5, .bool C6, .bool C7] 30 (0, 0))) ∧ Aside0 (Below w.heap.size w wc))
 case first => (
 as_aux_lemma => (
 have H := a82.out
 clear a82
 by_cases J8 : (Int.tmod J7 (wrap64 (2 * g3))) > g3
 ·(
 rw [if_pos J8] at H
 have D0 : decide (g3 < (Int.tmod J7 (wrap64 (2 * g3)))) = true := decide_eq_true J8
 clear J8
 (first | rw [D0] | (simp only [i64_w, i32_w]; rw [D0]) | skip)
 have H' := Aside0.mk H
 clear H
 have eu9 := l4.out
 have ev0 := l3.out
 have ev1 := l6.out
 have ev2 := l5.out
 have ev3 := l8.out
 have ev4 := l7.out
 have ev5 := m0.out
 have ev6 := l9.out
 have ev7 := k2.out
 have ev8 := k1.out
 have ev9 := k4.out
 have ew0 := k3.out
 have ew1 := m1.out
 have ew2 := m2.out
 have ew3 := j0.out
 have ew4 := j1.out
 have ew5 := j2.out
 have ew6 := j3.out
 have ew7 := o3.out
 have ew8 := o4.out
 obtain ⟨ch9, ci0, ci1, ci2⟩ := cf2 b8
 repeat (go_not_at_region 14; go_not_at_region 20; go_not_at_region 29; go_not_at_region 30; go_not_at_region 45; go_not_at_region 83; go_not_at_region 86; first | go_skip | go_guarded | go_step | go_upon)
 go_meet
 case rel => exact ⟨_, (wrap64 ((wrap64 (2 * g3)) - (Int.tmod J7 (wrap64 (2 * g3))))), sR, H', ⟨laws_FnBeamsGo.jx⟩, (bA a3), (bA a5), (bA a6), (bA a7), (bA b4), (bA b5), (bA b8), (bA c2), (bA c6), (bA d3), (bA h6), ⟨bB⟩⟩
 )
 rw [if_neg J8] at H
 have D0 : decide (g3 < (Int.tmod J7 (wrap64 (2 * g3)))) = false := decide_eq_false J8
 clear J8
 (first | rw [D0] | (simp only [i64_w, i32_w]; rw [D0]) | skip)
 have H' := Aside0.mk H
 clear H
 repeat (go_not_at_region 14; go_not_at_region 20; go_not_at_region 29; go_not_at_region 30; go_not_at_region 45; go_not_at_region 83; go_not_at_region 86; first | go_skip | go_guarded | go_step | go_upon)
 go_meet
 case rel => exact ⟨_, (Int.tmod J7 (wrap64 (2 * g3))), sR, H', ⟨laws_FnBeamsGo.jx⟩, (bA a3), (bA a5), (bA a6), (bA a7), (bA b4), (bA b5), (bA b8), (bA c2), (bA c6), (bA d3), (bA h6), ⟨bB⟩⟩
 )
 )
 clear a82
 try clear S5
 try clear a81
 try clear bi0
 try clear bi1
 try clear az8
 try clear az9
 try clear b00
 try clear b01
 obtain ⟨kq, y3, rfl, HA, HJ676, a3, a5, a6, a7, b4, b5, b8, c2, c6, d3, h6, HB⟩ := hcut
 (try clear es8); (try clear es9); (try clear et0); (try clear et1); (try clear et2); (try clear et3); (try clear et4); (try clear et5); (try clear et6); (try clear et7); (try clear et8); (try clear et9); (try clear eu0); (try clear eu1); (try clear eu2); (try clear eu3); (try clear eu4); (try clear eu5); (try clear eu6); (try clear eu7); (try clear az8); (try clear az9); (try clear b00); (try clear b01)
 cases kq with
 | zero => exact absurd HA.out (by simp [laws_FnBeamsGo.j17])
 | succ gf7 => (
 as_aux_lemma => (
 have H := HA.out
 clear HA
 simp only [laws_FnBeamsGo.j17] at H
 replace H := Option.bind_eq_some_iff.mp H; obtain ⟨F9, b62, H⟩ := H; (try dsimp only at H); have bi2 := Aside0.mk b62; clear b62
 by_cases b02 : (wrap64 (2 * g4)) = 0
 ·(
 rw [if_pos b02] at H
 exact absurd H (by simp)
 )
 rw [if_neg b02] at H
 obtain ⟨ew9, ex0⟩ := nE b02
 by_cases J9 : (Int.tmod F9 (wrap64 (2 * g4))) > g4
 ·(
 rw [if_pos J9] at H
 have bi3 : decide (g4 < (Int.tmod F9 (wrap64 (2 * g4)))) = true := decide_eq_true J9
 clear J9
 by_cases a83 : n5 = y3
 ·(
 rw [if_pos a83] at H
 obtain ⟨ex1, ex2⟩ := yE a83
 clear a83
 by_cases a84 : n6 = (wrap64 ((wrap64 (2 * g4)) - (Int.tmod F9 (wrap64 (2 * g4)))))
 ·(
 rw [if_pos a84] at H
 obtain ⟨ex3, ex4⟩ := yE a84
 clear a84
 obtain rfl := Option.some.inj H
 repeat (go_not_at_region 14; go_not_at_region 20; go_not_at_region 29; go_not_at_region 30; go_not_at_region 45; go_not_at_region 83; go_not_at_region 86; first | go_skip | go_guarded | go_step | go_upon)
 replace a3 := bD1 a3
 replace a5 := bD1 a5
 replace a6 := bD1 a6
 replace a7 := bD1 a7
 replace b4 := bD1 b4
 replace b5 := bD1 b5
 replace b8 := bD1 b8
 replace c2 := bD1 c2
 replace c6 := bD1 c6
 replace d3 := bD1 d3
 replace h6 := bD1 h6
 replace HB := Aside0.mk (below_drew1 HB.out)
 refine st0_ 7 laws_FnBeamsGo.pl13 (S := fun w' => w'.cell? ⟨q6, 0, none⟩ = some (.int .i64 g3) ∧ w'.cell? ⟨q6, 1, none⟩ = some (.int .i64 g4)) (ds := []) cS (fun hHeld HT_ HW_ => ?_)
 generalize wc.drew = gk7 at a3 a5 a6 a7 b4 b5 b8 c2 c6 d3 h6 HB hHeld ⊢
 iterate 4 (first | refine qA HT_ ?_ | refine qU HT_ hHeld ?_)
 refine pO HT_ fun K hK => ?_
 refine goes_ Try.func25 kr rfl #[.int .i64 F8] (by rfl) rfl rfl sM ?_
 with_reducible refine (laws_jSize.calls F8 F9 _ bi2.out).mono ?_
 rintro e w' ⟨rfl, ⟨nd, rfl⟩⟩
 refine ⟨_, rfl, ?_⟩
 refine hK.out _ _ cS (fun hHeld => ?_)
 clear hK K
 refine nP ?_
 iterate 2 refine qA HT_ ?_
 refine pD HT_ ?_
 have ex5 := l4.out
 have ex6 := l3.out
 have ex7 := l6.out
 have ex8 := l5.out
 have ex9 := l8.out
 have ey0 := l7.out
 have ey1 := m0.out
 have ey2 := l9.out
 have ey3 := k2.out
 have ey4 := k1.out
 have ey5 := k4.out
 have ey6 := k3.out
 have ey7 := m1.out
 have ey8 := m2.out
 have ey9 := j0.out
 have ez0 := j1.out
 have ez1 := j2.out
 have ez2 := j3.out
 have ez3 := o3.out
 have ez4 := o4.out
 obtain ⟨ci3, ci4, ci5, ci6⟩ := cf2 b8
 have ez5 := p5.out
 have ez6 := p4.out
 have ez7 := p7.out
 have ez8 := p6.out
 have ez9 := p9.out
 have g00 := p8.out
 have g01 := q1.out
 have g02 := q0.out
 have g03 := n8.out
 have g04 := n7.out
 have g05 := o0.out
 have g06 := n9.out
 have g07 := o2.out
 have g08 := o1.out
 have g09 := q2.out
 have g10 := q3.out
 have g11 := r3.out
 have g12 := r4.out
 obtain ⟨ci7, ci8, ci9, cj0, cj1, cj2, cj3, cj4⟩ := cf4 c6
 repeat (go_not_at_region 14; go_not_at_region 20; go_not_at_region 29; go_not_at_region 30; go_not_at_region 45; go_not_at_region 83; go_not_at_region 86; first | go_skip | go_guarded | go_step | go_upon)
 go_ret
 exact ⟨sE, bI⟩
 )
 rw [if_neg a84] at H
 exact fy HT_l H
 )
 rw [if_neg a83] at H
 exact fy HT_l H
 )
 rw [if_neg J9] at H
 have bi3 : decide (g4 < (Int.tmod F9 (wrap64 (2 * g4)))) = false := decide_eq_false J9
 clear J9
 by_cases a85 : n5 = y3
 ·(
 rw [if_pos a85] at H
 obtain ⟨g13, g14⟩ := yE a85
 clear a85
 by_cases a86 : n6 = (Int.tmod F9 (wrap64 (2 * g4)))
 ·(
 rw [if_pos a86] at H
 obtain ⟨g15, g16⟩ := yE a86
 clear a86
 obtain rfl := Option.some.inj H
 repeat (go_not_at_region 14; go_not_at_region 20; go_not_at_region 29; go_not_at_region 30; go_not_at_region 45; go_not_at_region 83; go_not_at_region 86; first | go_skip | go_guarded | go_step | go_upon)
 replace a3 := bD1 a3
 replace a5 := bD1 a5
 replace a6 := bD1 a6
 replace a7 := bD1 a7
 replace b4 := bD1 b4
 replace b5 := bD1 b5
 replace b8 := bD1 b8
 replace c2 := bD1 c2
 replace c6 := bD1 c6
 replace d3 := bD1 d3
 replace h6 := bD1 h6
 replace HB := Aside0.mk (below_drew1 HB.out)
 refine st0_ 7 laws_FnBeamsGo.pl13 (S := fun w' => w'.cell? ⟨q6, 0, none⟩ = some (.int .i64 g3) ∧ w'.cell? ⟨q6, 1, none⟩ = some (.int .i64 g4)) (ds := []) cS (fun hHeld HT_ HW_ => ?_)
 generalize wc.drew = gk8 at a3 a5 a6 a7 b4 b5 b8 c2 c6 d3 h6 HB hHeld ⊢
 iterate 4 (first | refine qA HT_ ?_ | refine qU HT_ hHeld ?_)
 refine pO HT_ fun K hK => ?_
 refine goes_ Try.func25 kr rfl #[.int .i64 F8] (by rfl) rfl rfl sM ?_
 with_reducible refine (laws_jSize.calls F8 F9 _ bi2.out).mono ?_
 rintro e w' ⟨rfl, ⟨nd, rfl⟩⟩
 refine ⟨_, rfl, ?_⟩
 refine hK.out _ _ cS (fun hHeld => ?_)
 clear hK K
 refine nP ?_
 iterate 2 refine qA HT_ ?_
 refine pD HT_ ?_
 have g17 := l4.out
 have g18 := l3.out
 have g19 := l6.out
 have g20 := l5.out
 have g21 := l8.out
 have g22 := l7.out
 have g23 := m0.out
 have g24 := l9.out
 have g25 := k2.out
 have g26 := k1.out
 have g27 := k4.out
 have g28 := k3.out
 have g29 := m1.out
 have g30 := m2.out
 have g31 := j0.out
 have g32 := j1.out
 have g33 := j2.out
 have g34 := j3.out
 have g35 := o3.out
 have g36 := o4.out
 obtain ⟨cj5, cj6, cj7, cj8⟩ := cf2 b8
 have g37 := p5.out
 have g38 := p4.out
 have g39 := p7.out
 have g40 := p6.out
 have g41 := p9.out
 have g42 := p8.out
 have g43 := q1.out
 have g44 := q0.out
 have g45 := n8.out
 have g46 := n7.out
 have g47 := o0.out
 have g48 := n9.out
 have g49 := o2.out
 have g50 := o1.out
 have g51 := q2.out
 have g52 := q3.out
 have g53 := r3.out
 have g54 := r4.out
 obtain ⟨cj9, ck0, ck1, ck2, ck3, ck4, ck5, ck6⟩ := cf4 c6
 repeat (go_not_at_region 14; go_not_at_region 20; go_not_at_region 29; go_not_at_region 30; go_not_at_region 45; go_not_at_region 83; go_not_at_region 86; first | go_skip | go_guarded | go_step | go_upon)
 go_ret
 exact ⟨sE, bI⟩
 )
 rw [if_neg a86] at H
 exact fy HT_l H
 )
 rw [if_neg a85] at H
 exact fy HT_l H
 )
 )
 )
 replace S5 := Bool.eq_false_iff.mpr S5
 subst S5
 rw [if_neg nft] at H
 obtain rfl := Option.some.inj H
 repeat (go_not_at_region 14; go_not_at_region 20; go_not_at_region 29; go_not_at_region 30; go_not_at_region 45; go_not_at_region 83; go_not_at_region 86; first | go_skip | go_guarded | go_step | go_upon)
 go_ret
 exact ⟨sE, bI⟩
 )
 )
 )
 replace S4 := Bool.eq_false_iff.mpr S4
 subst S4
 rw [if_neg nft] at H
 exact fy HT_l H
 )
 )
 )
 replace S3 := Bool.eq_false_iff.mpr S3
 subst S3
 rw [if_neg nft] at H
 obtain rfl := Option.some.inj H
 repeat (go_not_at_region 14; go_not_at_region 20; go_not_at_region 29; go_not_at_region 30; go_not_at_region 45; go_not_at_region 83; go_not_at_region 86; first | go_skip | go_guarded | go_step | go_upon)
 go_ret
 exact ⟨sE, bI⟩
 )
 )
 )
 )
 )
 )
 )
 )
 )
 )
end Go.Proofs.Ythfbjofmcniogaa.PFnBeamsGo
