-- Written by split3.py: the law's walk behind cut 4.
import Derived.Test.YtcfknhmdhglmfaaGreatDoorVM
import Derived.Test.YtcfknhmdhglmfaaGreatDoorVF
import Derived.Test.YtcfknhmdhglmfaaGreatDoorPFnLaddersWholex0
import Derived.Test.YtcfknhmdhglmfaaGreatDoorPFnLaddersWholex1
import Derived.Test.YtcfknhmdhglmfaaGreatDoorPFnLaddersWholex2
import Derived.Test.YtcfknhmdhglmfaaGreatDoorPFnLaddersWholex3
import Derived.Test.YtcfknhmdhglmfaaGreatDoorPFnLaddersWholex4
import Derived.Test.YtcfknhmdhglmfaaGreatDoorPFnLaddersWholex5
import Derived.Test.YtcfknhmdhglmfaaGreatDoorPFnLaddersWholex6
import Derived.Test.YtcfknhmdhglmfaaGreatDoorPFnLaddersWholex7
import Derived.Test.YtcfknhmdhglmfaaGreatDoorPFnLaddersWholex8
import Derived.Test.YtcfknhmdhglmfaaGreatDoorPFnLaddersWholex11
import Derived.Test.YtcfknhmdhglmfaaGreatDoorPFnLaddersWholex12
import Derived.Test.YtcfknhmdhglmfaaGreatDoorPFnLaddersWholex13
namespace Go.Proofs.YtcfknhmdhglmfaaGreatDoor.PFnLaddersWhole
open Go.Proofs.YtcfknhmdhglmfaaGreatDoorV Go.RowKit Go.Proofs.YtcfknhmdhglmfaaGreatDoorW.PrintWords Go.Proofs.YtcfknhmdhglmfaaGreatDoorW.PrintLast Go.Proofs.YtcfknhmdhglmfaaGreatDoorW.PrintMore
attribute [local go_sem] max2_int min2_int max_two min_two max_three min_three max_four min_four   -- for this text's walks alone
attribute [local go_sem ↓] rdl_zero rdl_succ eval_lit
set_option linter.unusedVariables false
set_option linter.unusedSimpArgs false
attribute [local go_sem high] eqA25
set_option maxHeartbeats 100000000 in
set_option maxRecDepth 100000 in
theorem laws_FnLaddersWhole.rest4 : laws_FnLaddersWhole.RestSaid4 := by
 intro k A0 c0 l0 A1 c1 l1 r w d2 d3 d4 v9 x0 uz0 a86 a87 a88 uz1 uz2 x2 a89 a90 a91 x3 M1 a92 a93 e0 u122 u123 u124 u125 u126 u127 u128 u129 u130 u131 u132 u133 u134 u135 u136 u137 u138 u139 u140 u141 u142 u143 u144 u145 u146 u147 u148 u149 u150 u151 u152 u153 u154 u155 u156 u157 u158 u159 u160 u161 u162 u163 u164 u165 u166 u167 u168 u169 u170 u171 u172 u173 u174 u175 u176 x5 u22 u23 u24 u179 u180 u181 u182 u183 u184 u185 u186 u187 u188 u189 u190 u191 u192 u193 u194 u195 u196 u197 u198 u199 u200 u201 u202 u203 u204 u205 u206 u207 u208 u209 u210 u211 u212 u213 u214 u215 u216 u217 u218 u219 u220 u221 u222 u223 u224 u225 u226 u227 u228 u229 u230 u231 u232 u233 u234 u235 u236 u237 u238 u239 u240 u241 u242 u243 u244 u245 u246 u247 u248 u249 u250 u251 u252 u253 u254 u255 u256 u257 u258 d1 o6 c2 y2 o7 a94 y3 M2 a95 a96 o4 b1 r8 o8 a97 e5 e6 e7 q1 q2 m6 m7 m8 a98 a99 d7 d8 d9 o9 i6 i7 i9 q5 m9 n0 n1 aa0 p2 j0 j1 j2 q3 e8 e9 g0 aa1 aa2 bk1 K1 bk2 c3 c5 c6 c7 c8 c9 b4 u334 u335 u336 u337 u338 u339 u340 u341 u342 u343 u344 u345 u346 u347 u348 u349 u350 u351 u352 u353 u354 u355 u356 u357 u358 u359 u360 u361 u362 u363 u364 u365 u366 u367 u368 u369 u370 u371 u372 u373 u374 u375 u376 u377 u378 u379 u380 u381 u382 u383 u384 u385 u386 u387 u388 u389 u390 u391 u392 u393 u394 u395 u396 u397 u398 u399 u400 u401 u402 u403 u404 u405 u406 u407 u408 u409 u410 u411 u412 b75 u56 u57 u415 u416 u417 u418 u419 u420 u421 u422 u423 u424 u425 u426 u427 u428 u429 u430 u431 u432 u433 u434 u435 u436 u437 u438 u439 u440 u441 u442 u443 u444 u445 u446 u447 u448 u449 u450 u451 u452 u453 u454 u455 u456 u457 u458 u459 u460 u461 u462 u463 u464 u465 u466 u467 u468 u469 u470 u471 u472 u473 u474 u475 u476 u477 u478 u479 u480 u481 u482 u483 u484 u485 ae7 wc u0 u4 u58 u60 u61 u62 u63 u64 u65 u66 u67 u68 u487 u488 u489 u490 u491 u492 u493 u494 u495 u496 u497 u498 u499 u500 u501 u502 u503 u504 u505 u506 u507 u508 u509 u510 u511 u512 u513 u514 u515 u516 u517 u518 u519 u520 u521 u522 u523 u524 u525 u526 u527 u528 u529 u530 u531 u532 u533 u534 u535 u536 u537 u538 u539 u540 u541 u542 u543 u544 u545 u546 u547 u548 u549 u550 u551 u552 u553 u554 u555 u556 u557 u558 u559 u560 u561 u562 u563 u564 u565 u566 kq HM E4 E5 p7 p8 HT_l A3 A5 A6 A7 A8 A9 A10 A11 b94 b95 HJ11 HJ43 A66 A67 A68 A69 A70 A71 A72 A73 A74 A75 A76 A77 A78 A79 A80 A81 bc4 bc5 g1 g2 bc8 bc9 n2 n3 g3 g4 bd4 bd5 p4 p5 e1 e2 k8 k9 bd6 bd7 j5 j6 d5 d6 j7 j8 l2 l3 bd8 bd9 n4 n5 g5 g6 n6 n7 l4 l5 j9 k0 be0 be1 l6 l7 e3 e4 l8 l9 k4 k6 j3 j4 m0 m1 be2 be3 n8 n9 g7 g8 o0 o1 m2 m3 k1 k2 o2 o3 m4 m5 HJ81 HJ233 HA HJ255 a2 a3 a4 a5 a6 a8 a9 b0 HB
 conv => enter [2]; whnf
 have cf2 := Tryz.underlying25
 cases kq with
 | zero => exact absurd HA.out (by simp [laws_FnLaddersWhole.j7])
 | succ v0 => (
 as_aux_lemma => (
 have H := HA.out
 clear HA
 simp only [laws_FnLaddersWhole.j7] at H
 have ag3 := Aside0.mk H
 clear H
 repeat (go_not_at_if 567; first | (with_reducible refine rgl ?_) | go_skip | go_guarded | go_step | go_upon)
 repeat (go_quiet (fail); go_upto_if 567 with (fail))
 go_cut [] from 0 to 0 (fun wc => ∃ (kq : Nat), Aside0 (laws_FnLaddersWhole.j8 kq p2 q3 j0 j1 j2 = some r) ∧ Aside0 (kq ≤ v0) ∧ Aside0 (wc.heap[e0]? = some (.cells #[.int .i64 d2, .int .i64 d3, .int .i64 d4] 25 (0, 0))) ∧ Aside0 (wc.heap[c3]? = some (.cells #[.int .i64 e5, .int .i64 e6, .int .i64 e7] 25 (0, 0))) ∧ Aside0 (wc.heap[c5]? = some (.cells #[.int .i64 m6, .int .i64 m7, .int .i64 m8] 25 (0, 0))) ∧ Aside0 (wc.heap[c6]? = some (.cells #[.int .i64 d7, .int .i64 d8, .int .i64 d9] 25 (0, 0))) ∧ Aside0 (wc.heap[c7]? = some (.cells #[.int .i64 i6, .int .i64 i7, .int .i64 i9] 25 (0, 0))) ∧ Aside0 (wc.heap[c8]? = some (.cells #[.int .i64 m9, .int .i64 n0, .int .i64 n1] 25 (0, 0))) ∧ Aside0 (wc.heap[c9]? = some (.cells #[.int .i64 j0, .int .i64 j1, .int .i64 j2] 25 (0, 0))) ∧ Aside0 (wc.heap[b4]? = some (.cells #[.int .i64 e8, .int .i64 e9, .int .i64 g0] 25 (0, 0))) ∧ Aside0 (Below w.heap.size w wc))
 case first => (
 as_aux_lemma => (
 have H := ag3.out
 clear ag3
 by_cases ag4 : q5 = true
 ·(
 subst ag4
 rw [if_pos rfl] at H
 replace H := Option.bind_eq_some_iff.mp H; obtain ⟨⟨ag5, ag6, bu2⟩, bf4, H⟩ := H; (try dsimp only at H); have b88 := Aside0.mk bf4; clear bf4
 replace H := Option.bind_eq_some_iff.mp H; obtain ⟨⟨ag7, ag8, bu3⟩, bf5, H⟩ := H; (try dsimp only at H); have b89 := Aside0.mk bf5; clear bf5
 replace H := Option.bind_eq_some_iff.mp H; obtain ⟨⟨ag9, ah0, bu4⟩, bf6, H⟩ := H; (try dsimp only at H); have b90 := Aside0.mk bf6; clear bf6
 replace H := Option.bind_eq_some_iff.mp H; obtain ⟨⟨ah1, ah2, bu5⟩, bf7, H⟩ := H; (try dsimp only at H); have b91 := Aside0.mk bf7; clear bf7
 by_cases ah3 : bu2 = true
 ·(
 subst ah3
 rw [if_pos rfl] at H
 by_cases ah4 : bu3 = true
 ·(
 subst ah4
 rw [if_pos rfl] at H
 by_cases ah5 : (wrap64 (ag7 * ag6)) = (wrap64 ((wrap64 (ag5 * ag8)) * o9))
 ·(
 rw [if_pos ah5] at H
 obtain ⟨b59, c70⟩ := yE ah5
 clear ah5
 (first | rw [b59] | (simp only [i64_w, i32_w]; rw [b59]) | skip)
 by_cases ah6 : bu4 = true
 ·(
 subst ah6
 rw [if_pos rfl] at H
 by_cases ah7 : bu5 = true
 ·(
 subst ah7
 rw [if_pos rfl] at H
 by_cases ah8 : ah1 = (wrap64 ((wrap64 (ag9 * o9)) * o9))
 ·(
 rw [if_pos ah8] at H
 obtain ⟨c71, c72⟩ := yE ah8
 clear ah8
 by_cases ah9 : ah2 = (wrap64 ((wrap64 (ah0 * o9)) * o9))
 ·(
 rw [if_pos ah9] at H
 obtain ⟨c73, c74⟩ := yE ah9
 clear ah9
 have H' := Aside0.mk H
 clear H
 have c75 := p5.out
 have c76 := p4.out
 have c77 := e2.out
 have c78 := e1.out
 have c79 := k9.out
 have c80 := k8.out
 have c81 := l2.out
 have c82 := l3.out
 have c83 := l4.out
 have c84 := l5.out
 have c85 := k4.out
 have c86 := k6.out
 have c87 := m2.out
 have c88 := m3.out
 obtain ⟨bu6, bu7, bu8, bu9, bv0, bv1⟩ := cf3 a5
 repeat (go_not_at_region 40; first | (go_at_call 13; (with_reducible refine (impl_CrossHeight.calls v0 d7 d8 d9 ag5 ag6 true _ b88.out).mono ?_); rintro e bn5 ⟨rfl, hb⟩; dsimp only; replace a2 := bQ a2 hb; replace a3 := bQ a3 hb; replace a4 := bQ a4 hb; replace a5 := bQ a5 hb; replace a6 := bQ a6 hb; replace a8 := bQ a8 hb; replace a9 := bQ a9 hb; replace b0 := bQ b0 hb; replace HB := Aside0.mk (below_step bB hb); (try clear hb); have b60 := j6.out; have b61 := j5.out; have b62 := d6.out; have b63 := d5.out; have b64 := j8.out; have b65 := j7.out; have b66 := j9.out; have b67 := k0.out; have b68 := j3.out; have b69 := j4.out; have b70 := k1.out; have b71 := k2.out; obtain ⟨a45, a46, a47, a48, a49, a50⟩ := cf3 a6) | (go_at_call 13; (with_reducible refine (impl_CrossHeight.calls v0 i6 i7 i9 ag7 ag8 true _ b89.out).mono ?_); rintro e bn6 ⟨rfl, hb⟩; dsimp only; replace a2 := bQ a2 hb; replace a3 := bQ a3 hb; replace a4 := bQ a4 hb; replace a5 := bQ a5 hb; replace a6 := bQ a6 hb; replace a8 := bQ a8 hb; replace a9 := bQ a9 hb; replace b0 := bQ b0 hb; replace HB := Aside0.mk (below_step bB hb); (try clear hb); obtain ⟨a51, a52, a53, a54, a55, a56⟩ := cf3 a5) | (go_at_call 6; (with_reducible refine (impl_SquaresOf.calls d7 d8 d9 ag9 ah0 true _ b90.out).mono ?_); rintro e bn7 ⟨rfl, hb⟩; dsimp only; replace a2 := bQ a2 hb; replace a3 := bQ a3 hb; replace a4 := bQ a4 hb; replace a5 := bQ a5 hb; replace a6 := bQ a6 hb; replace a8 := bQ a8 hb; replace a9 := bQ a9 hb; replace b0 := bQ b0 hb; replace HB := Aside0.mk (below_step bB hb); (try clear hb); obtain ⟨a57, a58, a59, a60, a61, a62⟩ := cf3 a6) | (go_at_call 6; (with_reducible refine (impl_SquaresOf.calls i6 i7 i9 ah1 ah2 true _ b91.out).mono ?_); rintro e bn8 ⟨rfl, hb⟩; dsimp only; replace a2 := bQ a2 hb; replace a3 := bQ a3 hb; replace a4 := bQ a4 hb; replace a5 := bQ a5 hb; replace a6 := bQ a6 hb; replace a8 := bQ a8 hb; replace a9 := bQ a9 hb; replace b0 := bQ b0 hb; replace HB := Aside0.mk (below_step bB hb); (try clear hb)) | (with_reducible refine rgl ?_) | go_skip | go_guarded | go_step | go_upon)
 repeat (go_quiet (first | (go_at_call 13; (with_reducible refine (impl_CrossHeight.calls v0 d7 d8 d9 ag5 ag6 true _ b88.out).mono ?_); rintro e bn5 ⟨rfl, hb⟩; dsimp only; replace a2 := bQ a2 hb; replace a3 := bQ a3 hb; replace a4 := bQ a4 hb; replace a5 := bQ a5 hb; replace a6 := bQ a6 hb; replace a8 := bQ a8 hb; replace a9 := bQ a9 hb; replace b0 := bQ b0 hb; replace HB := Aside0.mk (below_step bB hb); (try clear hb); have b60 := j6.out; have b61 := j5.out; have b62 := d6.out; have b63 := d5.out; have b64 := j8.out; have b65 := j7.out; have b66 := j9.out; have b67 := k0.out; have b68 := j3.out; have b69 := j4.out; have b70 := k1.out; have b71 := k2.out; obtain ⟨a45, a46, a47, a48, a49, a50⟩ := cf3 a6) | (go_at_call 13; (with_reducible refine (impl_CrossHeight.calls v0 i6 i7 i9 ag7 ag8 true _ b89.out).mono ?_); rintro e bn6 ⟨rfl, hb⟩; dsimp only; replace a2 := bQ a2 hb; replace a3 := bQ a3 hb; replace a4 := bQ a4 hb; replace a5 := bQ a5 hb; replace a6 := bQ a6 hb; replace a8 := bQ a8 hb; replace a9 := bQ a9 hb; replace b0 := bQ b0 hb; replace HB := Aside0.mk (below_step bB hb); (try clear hb); obtain ⟨a51, a52, a53, a54, a55, a56⟩ := cf3 a5) | (go_at_call 6; (with_reducible refine (impl_SquaresOf.calls d7 d8 d9 ag9 ah0 true _ b90.out).mono ?_); rintro e bn7 ⟨rfl, hb⟩; dsimp only; replace a2 := bQ a2 hb; replace a3 := bQ a3 hb; replace a4 := bQ a4 hb; replace a5 := bQ a5 hb; replace a6 := bQ a6 hb; replace a8 := bQ a8 hb; replace a9 := bQ a9 hb; replace b0 := bQ b0 hb; replace HB := Aside0.mk (below_step bB hb); (try clear hb); obtain ⟨a57, a58, a59, a60, a61, a62⟩ := cf3 a6) | (go_at_call 6; (with_reducible refine (impl_SquaresOf.calls i6 i7 i9 ah1 ah2 true _ b91.out).mono ?_); rintro e bn8 ⟨rfl, hb⟩; dsimp only; replace a2 := bQ a2 hb; replace a3 := bQ a3 hb; replace a4 := bQ a4 hb; replace a5 := bQ a5 hb; replace a6 := bQ a6 hb; replace a8 := bQ a8 hb; replace a9 := bQ a9 hb; replace b0 := bQ b0 hb; replace HB := Aside0.mk (below_step bB hb); (try clear hb))); try go_wp2_with (first | (go_at_call 13; (with_reducible refine (impl_CrossHeight.calls v0 d7 d8 d9 ag5 ag6 true _ b88.out).mono ?_); rintro e bn5 ⟨rfl, hb⟩; dsimp only; replace a2 := bQ a2 hb; replace a3 := bQ a3 hb; replace a4 := bQ a4 hb; replace a5 := bQ a5 hb; replace a6 := bQ a6 hb; replace a8 := bQ a8 hb; replace a9 := bQ a9 hb; replace b0 := bQ b0 hb; replace HB := Aside0.mk (below_step bB hb); (try clear hb); have b60 := j6.out; have b61 := j5.out; have b62 := d6.out; have b63 := d5.out; have b64 := j8.out; have b65 := j7.out; have b66 := j9.out; have b67 := k0.out; have b68 := j3.out; have b69 := j4.out; have b70 := k1.out; have b71 := k2.out; obtain ⟨a45, a46, a47, a48, a49, a50⟩ := cf3 a6) | (go_at_call 13; (with_reducible refine (impl_CrossHeight.calls v0 i6 i7 i9 ag7 ag8 true _ b89.out).mono ?_); rintro e bn6 ⟨rfl, hb⟩; dsimp only; replace a2 := bQ a2 hb; replace a3 := bQ a3 hb; replace a4 := bQ a4 hb; replace a5 := bQ a5 hb; replace a6 := bQ a6 hb; replace a8 := bQ a8 hb; replace a9 := bQ a9 hb; replace b0 := bQ b0 hb; replace HB := Aside0.mk (below_step bB hb); (try clear hb); obtain ⟨a51, a52, a53, a54, a55, a56⟩ := cf3 a5) | (go_at_call 6; (with_reducible refine (impl_SquaresOf.calls d7 d8 d9 ag9 ah0 true _ b90.out).mono ?_); rintro e bn7 ⟨rfl, hb⟩; dsimp only; replace a2 := bQ a2 hb; replace a3 := bQ a3 hb; replace a4 := bQ a4 hb; replace a5 := bQ a5 hb; replace a6 := bQ a6 hb; replace a8 := bQ a8 hb; replace a9 := bQ a9 hb; replace b0 := bQ b0 hb; replace HB := Aside0.mk (below_step bB hb); (try clear hb); obtain ⟨a57, a58, a59, a60, a61, a62⟩ := cf3 a6) | (go_at_call 6; (with_reducible refine (impl_SquaresOf.calls i6 i7 i9 ah1 ah2 true _ b91.out).mono ?_); rintro e bn8 ⟨rfl, hb⟩; dsimp only; replace a2 := bQ a2 hb; replace a3 := bQ a3 hb; replace a4 := bQ a4 hb; replace a5 := bQ a5 hb; replace a6 := bQ a6 hb; replace a8 := bQ a8 hb; replace a9 := bQ a9 hb; replace b0 := bQ b0 hb; replace HB := Aside0.mk (below_step bB hb); (try clear hb))))
 go_meet
 case rel => exact ⟨_, H', ⟨laws_FnLaddersWhole.jx⟩, (bA a2), (bA a3), (bA a4), (bA a5), (bA a6), (bA a8), (bA a9), (bA b0), ⟨bB⟩⟩
 )
 rw [if_neg ah9] at H
 exact fy HT_l H
 )
 rw [if_neg ah8] at H
 exact fy HT_l H
 )
 replace ah7 := Bool.eq_false_iff.mpr ah7
 subst ah7
 rw [if_neg nft] at H
 exact fy HT_l H
 )
 replace ah6 := Bool.eq_false_iff.mpr ah6
 subst ah6
 rw [if_neg nft] at H
 exact fy HT_l H
 )
 rw [if_neg ah5] at H
 exact fy HT_l H
 )
 replace ah4 := Bool.eq_false_iff.mpr ah4
 subst ah4
 rw [if_neg nft] at H
 exact fy HT_l H
 )
 replace ah3 := Bool.eq_false_iff.mpr ah3
 subst ah3
 rw [if_neg nft] at H
 exact fy HT_l H
 )
 replace ag4 := Bool.eq_false_iff.mpr ag4
 subst ag4
 rw [if_neg nft] at H
 have H' := Aside0.mk H
 clear H
 repeat (go_not_at_region 40; first | (with_reducible refine rgl ?_) | go_skip | go_guarded | go_step | go_upon)
 repeat (go_quiet (fail); try go_wp2)
 go_meet
 case rel => exact ⟨_, H', ⟨laws_FnLaddersWhole.jx⟩, (bA a2), (bA a3), (bA a4), (bA a5), (bA a6), (bA a8), (bA a9), (bA b0), ⟨bB⟩⟩
 )
 )
 clear ag3
 obtain ⟨kq, HA, HJ341, a2, a3, a4, a5, a6, a8, a9, b0, HB⟩ := hcut
 cases kq with
 | zero => exact absurd HA.out (by simp [laws_FnLaddersWhole.j8])
 | succ cf1 => (
 as_aux_lemma => (
 have H := HA.out
 clear HA
 simp only [laws_FnLaddersWhole.j8] at H
 by_cases ai0 : q3 = true
 ·(
 subst ai0
 rw [if_pos rfl] at H
 replace H := Option.bind_eq_some_iff.mp H; obtain ⟨⟨b92, bv2⟩, bf8, H⟩ := H; (try dsimp only at H); have b93 := Aside0.mk bf8; clear bf8
 by_cases ai1 : bv2 = true
 ·(
 subst ai1
 rw [if_pos rfl] at H
 obtain rfl := Option.some.inj H
 have c89 := l7.out
 have c90 := l6.out
 have c91 := e4.out
 have c92 := e3.out
 have c93 := l9.out
 have c94 := l8.out
 have c95 := k6.out
 have c96 := k4.out
 have c97 := j4.out
 have c98 := j3.out
 have c99 := m1.out
 have ca0 := m0.out
 have ca1 := m4.out
 have ca2 := m5.out
 obtain ⟨bv3, bv4, bv5, bv6, bv7, bv8⟩ := cf3 a9
 repeat (go_not_at_region 40; first | (go_at_call 32; (with_reducible refine (impl_LaddersText.calls j0 j1 j2 b92 true _ b93.out (HM.out.below (by repeat (first | (with_reducible first | exact HB.out | apply below_alloc | apply pw_below_drewN | apply below_drew1 | refine below_set ?_ (Aside0.out (by assumption))) | exact HB.out)))).mono ?_); rintro e bn9 ⟨rfl, hb⟩; dsimp only; replace a2 := bQ a2 hb; replace a3 := bQ a3 hb; replace a4 := bQ a4 hb; replace a5 := bQ a5 hb; replace a6 := bQ a6 hb; replace a8 := bQ a8 hb; replace a9 := bQ a9 hb; replace b0 := bQ b0 hb; replace HB := Aside0.mk (below_step bB hb); (try clear hb)) | (with_reducible refine rgl ?_) | go_skip | go_guarded | go_step | go_upon)
 repeat (go_quiet (first | (go_at_call 32; (with_reducible refine (impl_LaddersText.calls j0 j1 j2 b92 true _ b93.out (HM.out.below (by repeat (first | (with_reducible first | exact HB.out | apply below_alloc | apply pw_below_drewN | apply below_drew1 | refine below_set ?_ (Aside0.out (by assumption))) | exact HB.out)))).mono ?_); rintro e bn9 ⟨rfl, hb⟩; dsimp only; replace a2 := bQ a2 hb; replace a3 := bQ a3 hb; replace a4 := bQ a4 hb; replace a5 := bQ a5 hb; replace a6 := bQ a6 hb; replace a8 := bQ a8 hb; replace a9 := bQ a9 hb; replace b0 := bQ b0 hb; replace HB := Aside0.mk (below_step bB hb); (try clear hb))); try go_wp2_with (first | (go_at_call 32; (with_reducible refine (impl_LaddersText.calls j0 j1 j2 b92 true _ b93.out (HM.out.below (by repeat (first | (with_reducible first | exact HB.out | apply below_alloc | apply pw_below_drewN | apply below_drew1 | refine below_set ?_ (Aside0.out (by assumption))) | exact HB.out)))).mono ?_); rintro e bn9 ⟨rfl, hb⟩; dsimp only; replace a2 := bQ a2 hb; replace a3 := bQ a3 hb; replace a4 := bQ a4 hb; replace a5 := bQ a5 hb; replace a6 := bQ a6 hb; replace a8 := bQ a8 hb; replace a9 := bQ a9 hb; replace b0 := bQ b0 hb; replace HB := Aside0.mk (below_step bB hb); (try clear hb))))
 go_ret
 exact ⟨sE, bI⟩
 )
 replace ai1 := Bool.eq_false_iff.mpr ai1
 subst ai1
 rw [if_neg nft] at H
 exact fy HT_l H
 )
 replace ai0 := Bool.eq_false_iff.mpr ai0
 subst ai0
 rw [if_neg nft] at H
 obtain rfl := Option.some.inj H
 repeat (go_not_at_region 40; first | (with_reducible refine rgl ?_) | go_skip | go_guarded | go_step | go_upon)
 repeat (go_quiet (fail); try go_wp2)
 go_ret
 exact ⟨sE, bI⟩
 )
 )
 )
 )
end Go.Proofs.YtcfknhmdhglmfaaGreatDoor.PFnLaddersWhole
