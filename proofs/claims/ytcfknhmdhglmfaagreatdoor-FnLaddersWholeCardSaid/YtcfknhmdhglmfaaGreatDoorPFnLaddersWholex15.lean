-- Written by split3.py: the law's walk behind cut 3.
import Derived.Test.YtcfknhmdhglmfaaGreatDoorVM
import Derived.Test.YtcfknhmdhglmfaaGreatDoorVF
import Derived.Test.YtcfknhmdhglmfaaGreatDoorPFnLaddersWholex0
import Derived.Test.YtcfknhmdhglmfaaGreatDoorPFnLaddersWholex1
import Derived.Test.YtcfknhmdhglmfaaGreatDoorPFnLaddersWholex2
import Derived.Test.YtcfknhmdhglmfaaGreatDoorPFnLaddersWholex3
import Derived.Test.YtcfknhmdhglmfaaGreatDoorPFnLaddersWholex4
import Derived.Test.YtcfknhmdhglmfaaGreatDoorPFnLaddersWholex5
import Derived.Test.YtcfknhmdhglmfaaGreatDoorPFnLaddersWholex6
import Derived.Test.YtcfknhmdhglmfaaGreatDoorPFnLaddersWholex7
import Derived.Test.YtcfknhmdhglmfaaGreatDoorPFnLaddersWholex8
import Derived.Test.YtcfknhmdhglmfaaGreatDoorPFnLaddersWholex11
import Derived.Test.YtcfknhmdhglmfaaGreatDoorPFnLaddersWholex12
import Derived.Test.YtcfknhmdhglmfaaGreatDoorPFnLaddersWholex13
namespace Go.Proofs.YtcfknhmdhglmfaaGreatDoor.PFnLaddersWhole
open Go.Proofs.YtcfknhmdhglmfaaGreatDoorV Go.RowKit Go.Proofs.YtcfknhmdhglmfaaGreatDoorW.PrintWords Go.Proofs.YtcfknhmdhglmfaaGreatDoorW.PrintLast Go.Proofs.YtcfknhmdhglmfaaGreatDoorW.PrintMore
attribute [local go_sem] max2_int min2_int max_two min_two max_three min_three max_four min_four   -- for this text's walks alone
attribute [local go_sem ↓] rdl_zero rdl_succ eval_lit
set_option linter.unusedVariables false
set_option linter.unusedSimpArgs false
attribute [local go_sem high] eqA25
set_option maxHeartbeats 100000000 in
set_option maxRecDepth 100000 in
theorem laws_FnLaddersWhole.rest3 (hR_ : laws_FnLaddersWhole.RestSaid4) : laws_FnLaddersWhole.RestSaid3 := by
 intro k A0 c0 l0 A1 c1 l1 r w d2 d3 d4 v9 x0 uz0 a86 a87 a88 uz1 uz2 x2 a89 a90 a91 x3 M1 a92 a93 e0 u122 u123 u124 u125 u126 u127 u128 u129 u130 u131 u132 u133 u134 u135 u136 u137 u138 u139 u140 u141 u142 u143 u144 u145 u146 u147 u148 u149 u150 u151 u152 u153 u154 u155 u156 u157 u158 u159 u160 u161 u162 u163 u164 u165 u166 u167 u168 u169 u170 u171 u172 u173 u174 u175 u176 x5 u22 u23 u24 u179 u180 u181 u182 u183 u184 u185 u186 u187 u188 u189 u190 u191 u192 u193 u194 u195 u196 u197 u198 u199 u200 u201 u202 u203 u204 u205 u206 u207 u208 u209 u210 u211 u212 u213 u214 u215 u216 u217 u218 u219 u220 u221 u222 u223 u224 u225 u226 u227 u228 u229 u230 u231 u232 u233 u234 u235 u236 u237 u238 u239 u240 u241 u242 u243 u244 u245 u246 u247 u248 u249 u250 u251 u252 u253 u254 u255 u256 u257 u258 d1 o6 c2 y2 o7 a94 y3 M2 a95 a96 o4 b1 r8 o8 a97 e5 e6 e7 q1 q2 m6 m7 m8 a98 a99 d7 d8 d9 o9 i6 i7 i9 q5 m9 n0 n1 aa0 p2 j0 j1 j2 q3 e8 e9 g0 aa1 aa2 bk1 K1 bk2 c3 c5 c6 c7 c8 c9 b4 u334 u335 u336 u337 u338 u339 u340 u341 u342 u343 u344 u345 u346 u347 u348 u349 u350 u351 u352 u353 u354 u355 u356 u357 u358 u359 u360 u361 u362 u363 u364 u365 u366 u367 u368 u369 u370 u371 u372 u373 u374 u375 u376 u377 u378 u379 u380 u381 u382 u383 u384 u385 u386 u387 u388 u389 u390 u391 u392 u393 u394 u395 u396 u397 u398 u399 u400 u401 u402 u403 u404 u405 u406 u407 u408 u409 u410 u411 u412 b75 wc u0 u4 u56 u57 u415 u416 u417 u418 u419 u420 u421 u422 u423 u424 u425 u426 u427 u428 u429 u430 u431 u432 u433 u434 u435 u436 u437 u438 u439 u440 u441 u442 u443 u444 u445 u446 u447 u448 u449 u450 u451 u452 u453 u454 u455 u456 u457 u458 u459 u460 u461 u462 u463 u464 u465 u466 u467 u468 u469 u470 u471 u472 u473 u474 u475 u476 u477 u478 u479 u480 u481 u482 u483 u484 u485 kq HM E4 E5 p7 p8 HT_l A3 A5 A6 A7 A8 A9 A10 A11 b94 b95 HJ11 HJ43 A66 A67 A68 A69 A70 A71 A72 A73 A74 A75 A76 A77 A78 A79 A80 A81 bc4 bc5 g1 g2 bc8 bc9 n2 n3 g3 g4 bd4 bd5 p4 p5 e1 e2 k8 k9 bd6 bd7 j5 j6 d5 d6 j7 j8 l2 l3 bd8 bd9 n4 n5 g5 g6 n6 n7 l4 l5 j9 k0 be0 be1 l6 l7 e3 e4 l8 l9 k4 k6 j3 j4 m0 m1 be2 be3 n8 n9 g7 g8 o0 o1 m2 m3 k1 k2 o2 o3 m4 m5 HJ81 HA HJ233 p6 a2 a3 a4 a5 a6 a8 a9 b0 HB
 conv => enter [2]; whnf
 have cf2 := Tryz.underlying25
 cases kq with
 | zero => exact absurd HA.out (by simp [laws_FnLaddersWhole.j5])
 | succ ae7 => (
 as_aux_lemma => (
 have H := HA.out
 clear HA
 simp only [laws_FnLaddersWhole.j5] at H
 have ae8 := Aside0.mk H
 clear H
 repeat (go_not_at_if 486; first | (with_reducible refine rgl ?_) | go_skip | go_guarded | go_step | go_upon)
 repeat (go_quiet (fail); go_upto_if 486 with (fail))
 go_cut [] from 0 to 0 (fun wc => ∃ (kq : Nat), Aside0 (laws_FnLaddersWhole.j7 kq o9 q5 p2 q3 d7 d8 d9 i6 i7 i9 j0 j1 j2 = some r) ∧ Aside0 (kq ≤ ae7) ∧ Aside0 (wc.heap[e0]? = some (.cells #[.int .i64 d2, .int .i64 d3, .int .i64 d4] 25 (0, 0))) ∧ Aside0 (wc.heap[c3]? = some (.cells #[.int .i64 e5, .int .i64 e6, .int .i64 e7] 25 (0, 0))) ∧ Aside0 (wc.heap[c5]? = some (.cells #[.int .i64 m6, .int .i64 m7, .int .i64 m8] 25 (0, 0))) ∧ Aside0 (wc.heap[c6]? = some (.cells #[.int .i64 d7, .int .i64 d8, .int .i64 d9] 25 (0, 0))) ∧ Aside0 (wc.heap[c7]? = some (.cells #[.int .i64 i6, .int .i64 i7, .int .i64 i9] 25 (0, 0))) ∧ Aside0 (wc.heap[c8]? = some (.cells #[.int .i64 m9, .int .i64 n0, .int .i64 n1] 25 (0, 0))) ∧ Aside0 (wc.heap[c9]? = some (.cells #[.int .i64 j0, .int .i64 j1, .int .i64 j2] 25 (0, 0))) ∧ Aside0 (wc.heap[b4]? = some (.cells #[.int .i64 e8, .int .i64 e9, .int .i64 g0] 25 (0, 0))) ∧ Aside0 (Below w.heap.size w wc))
 case first => (
 as_aux_lemma => (
 have H := ae8.out
 clear ae8
 by_cases U9 : r8 = true
 ·(
 subst U9
 rw [if_pos rfl] at H
 have H' := Aside0.mk H
 clear H
 obtain ⟨bp6, bp7, bp8⟩ := Kd.R_slice p6.out
 subst bp8
 repeat (go_not_at_region 40; first | (with_reducible refine rgl ?_) | go_skip | go_guarded | go_step | go_upon)
 repeat (go_quiet (fail); try go_wp2)
 go_loopg [58, 489] ae7 (fun kq v58 bt7 w' => ∃ (F4 : Bool) (a7 : Int), v58 = .bool F4 ∧ bt7 = .int .i64 a7 ∧ Aside0 (laws_FnLaddersWhole.l1 kq o4 q1 q2 o9 q5 p2 q3 F4 b1 (b1.length : Int) a7 e5 e6 e7 d7 d8 d9 i6 i7 i9 j0 j1 j2 = some r) ∧ Aside0 (kq ≤ ae7) ∧ Aside0 (Kd.R k25 25 w' w.heap.size (fun k_ => k_ ≠ e0 ∧ k_ ≠ c3 ∧ k_ ≠ c5 ∧ k_ ≠ c6 ∧ k_ ≠ c7 ∧ k_ ≠ c8 ∧ k_ ≠ c9 ∧ k_ ≠ b4) (.slice bp6 b1.length bp7) b1) ∧ Aside0 (w'.heap[e0]? = some (.cells #[.int .i64 d2, .int .i64 d3, .int .i64 d4] 25 (0, 0))) ∧ Aside0 (w'.heap[c3]? = some (.cells #[.int .i64 e5, .int .i64 e6, .int .i64 e7] 25 (0, 0))) ∧ Aside0 (w'.heap[c5]? = some (.cells #[.int .i64 m6, .int .i64 m7, .int .i64 m8] 25 (0, 0))) ∧ Aside0 (w'.heap[c6]? = some (.cells #[.int .i64 d7, .int .i64 d8, .int .i64 d9] 25 (0, 0))) ∧ Aside0 (w'.heap[c7]? = some (.cells #[.int .i64 i6, .int .i64 i7, .int .i64 i9] 25 (0, 0))) ∧ Aside0 (w'.heap[c8]? = some (.cells #[.int .i64 m9, .int .i64 n0, .int .i64 n1] 25 (0, 0))) ∧ Aside0 (w'.heap[c9]? = some (.cells #[.int .i64 j0, .int .i64 j1, .int .i64 j2] 25 (0, 0))) ∧ Aside0 (w'.heap[b4]? = some (.cells #[.int .i64 e8, .int .i64 e9, .int .i64 g0] 25 (0, 0))) ∧ Aside0 (Below w.heap.size w w'))
 case atStart => exact ⟨(false), (0), sR, sR, H', ⟨Nat.le_refl _⟩, ⟨oR p6⟩, (bA a2), (bA a3), (bA a4), (bA a5), (bA a6), (bA a8), (bA a9), (bA b0), ⟨bB⟩⟩
 case round => (
 clear H'
 try clear U9
 obtain ⟨F4, a7, rfl, rfl, HA, HK5, b8, a2, a3, a4, a5, a6, a8, a9, b0, HB⟩ := hrel
 cases gk with
 | zero => exact absurd HA.out (by simp [laws_FnLaddersWhole.l1])
 | succ k5 => (
 have H := HA.out
 clear HA
 simp only [laws_FnLaddersWhole.l1] at H
 by_cases M0 : a7 < (b1.length : Int)
 ·(
 rw [if_pos M0] at H
 have v2 : decide (a7 < (b1.length : Int)) = true := decide_eq_true M0
 clear M0
 (first | rw [v2] | (simp only [i64_w, i32_w]; rw [v2]) | skip)
 by_cases ae9 : 0 ≤ a7
 ·(
 rw [if_pos ae9] at H
 have c58 : decide (0 ≤ a7) = true := decide_eq_true ae9
 clear ae9
 by_cases af0 : a7 < (b1.length : Int)
 ·(
 rw [if_pos af0] at H
 have c59 : decide (a7 < (b1.length : Int)) = true := decide_eq_true af0
 clear af0
 replace H := Option.bind_eq_some_iff.mp H; obtain ⟨⟨bt8, bt9⟩, bf0, H⟩ := H; (try dsimp only at H); have uz6 := Aside0.mk bf0; clear bf0
 replace H := Option.bind_eq_some_iff.mp H; obtain ⟨⟨q6, q7, bu0⟩, bf1, H⟩ := H; (try dsimp only at H); have uz7 := Aside0.mk bf1; clear bf1
 replace H := Option.bind_eq_some_iff.mp H; obtain ⟨⟨q4, r9, bu1⟩, bf2, H⟩ := H; (try dsimp only at H); have uz9 := Aside0.mk bf2; clear bf2
 by_cases af1 : bt9 = true
 ·(
 subst af1
 rw [if_pos rfl] at H
 by_cases af2 : bt8 = true
 ·(
 subst af2
 rw [if_pos rfl] at H
 by_cases af3 : bu0 = true
 ·(
 subst af3
 rw [if_pos rfl] at H
 by_cases af4 : q6 > o4
 ·(
 rw [if_pos af4] at H
 exact fy HT_l H
 )
 rw [if_neg af4] at H
 have c63 : decide (o4 < q6) = false := decide_eq_false af4
 clear af4
 by_cases af5 : q7 > o4
 ·(
 rw [if_pos af5] at H
 exact fy HT_l H
 )
 rw [if_neg af5] at H
 have c64 : decide (o4 < q7) = false := decide_eq_false af5
 clear af5
 by_cases af6 : ((rd_T25 b1 a7).f1) < ((rd_T25 b1 a7).f2)
 ·(
 rw [if_pos af6] at H
 exact fy HT_l H
 )
 rw [if_neg af6] at H
 have c65 : decide (((rd_T25 b1 a7).f1) < ((rd_T25 b1 a7).f2)) = false := decide_eq_false af6
 clear af6
 by_cases af7 : bu1 = true
 ·(
 subst af7
 rw [if_pos rfl] at H
 by_cases af8 : r9 = 1
 ·(
 rw [if_pos af8] at H
 obtain ⟨c66, c67⟩ := yE af8
 clear af8
 by_cases af9 : q4 < q1
 ·(
 rw [if_pos af9] at H
 exact fy HT_l H
 )
 rw [if_neg af9] at H
 have c68 : decide (q4 < q1) = false := decide_eq_false af9
 clear af9
 by_cases ag0 : F4 = true
 ·(
 subst ag0
 rw [if_pos rfl] at H
 have H' := Aside0.mk H
 clear H
 have q8 : 0 ≤ (a7 : Int) := of_decide_eq_true asm
 have q9 : a7 < (b1.length : Int) := of_decide_eq_true (by first | exact c59 | exact v2 | exact asm)
 obtain ⟨bf3, V0, a83, a84, a85⟩ := at_T25 (Kd.R_reads' b8.out).2.2 a7 q8 q9
 cases V0
 replace q8 := eq_true q8
 replace q9 := eq_true q9
 repeat (go_not_at_region 40; first | ((with_reducible refine gate_dst (N := 60) rfl ?_); (try (refine gate_guard (by rfl) ?_; dsimp only)); refine box_ (cs := #[.int .i64 0, .int .i64 0, .int .i64 0]) (t := 25) fun d0 hg bm0 hbox hb => ?_; have b7 := Aside0.mk (hbox); have r5 := bS HB hg; have r6 := bS HB hg; have g9 := bL a2 hg; have h0 := bM a2 hg; have h2 := bL a3 hg; have h3 := bM a3 hg; have h4 := bL a4 hg; have h5 := bM a4 hg; have h6 := bL a5 hg; have h7 := bM a5 hg; have h8 := bL a6 hg; have h9 := bM a6 hg; have i0 := bL a8 hg; have i1 := bM a8 hg; have i2 := bL a9 hg; have i3 := bM a9 hg; have i4 := bL b0 hg; have i5 := bM b0 hg; replace b8 := Aside0.mk (Kd.R_below (Kd.R_elderB (oR b8) d0 (Nat.le_of_eq hg.symm)) hb); replace a2 := bQ a2 hb; replace a3 := bQ a3 hb; replace a4 := bQ a4 hb; replace a5 := bQ a5 hb; replace a6 := bQ a6 hb; replace a8 := bQ a8 hb; replace a9 := bQ a9 hb; replace b0 := bQ b0 hb; replace HB := Aside0.mk (below_step bB hb); clear hb hbox hg; have ay3 := h0.out; have ay4 := g9.out; have ay5 := h3.out; have ay6 := h2.out; have ay7 := h5.out; have ay8 := h4.out; have ay9 := h7.out; have az0 := h6.out; have az1 := h9.out; have az2 := h8.out; have az3 := i1.out; have az4 := i0.out; have az5 := i3.out; have az6 := i2.out; have az7 := i5.out; have az8 := i4.out; obtain ⟨V1, V2, V3, V4, V5, V6⟩ := cf3 b7) | (go_at_call 10; (with_reducible refine (impl_IsWholeCrossing.calls k5 ((rd_T25 b1 a7).f0) ((rd_T25 b1 a7).f1) ((rd_T25 b1 a7).f2) true true _ uz6.out).mono ?_); rintro e bm1 ⟨rfl, hb⟩; dsimp only; replace b8 := Aside0.mk (Kd.R_below (by (with_reducible repeat (first | apply Kd.R_alloc | apply Kd.R_drewN | apply Kd.R_drew)); exact (Kd.R_mono (Kd.R_far (p := ⟨d0, 2, none⟩) (Kd.R_far (p := ⟨d0, 1, none⟩) (Kd.R_far (p := ⟨d0, 0, none⟩) (Kd.R_mono b8.out (fun k_ hk => (⟨hk, hk.2⟩ : _ ∧ k_ ≠ d0))) (fun _ hk => hk.2) (.int .i64 ((rd_T25 b1 a7).f0))) (fun _ hk => hk.2) (.int .i64 ((rd_T25 b1 a7).f1))) (fun _ hk => hk.2) (.int .i64 ((rd_T25 b1 a7).f2))) (fun _ h_ => h_.1))) hb); replace a2 := bQ a2 hb; replace a3 := bQ a3 hb; replace a4 := bQ a4 hb; replace a5 := bQ a5 hb; replace a6 := bQ a6 hb; replace a8 := bQ a8 hb; replace a9 := bQ a9 hb; replace b0 := bQ b0 hb; replace b7 := (bP (.cells #[.int .i64 ((rd_T25 b1 a7).f0), .int .i64 ((rd_T25 b1 a7).f1), .int .i64 ((rd_T25 b1 a7).f2)] 25 (0, 0)) b7 hb); replace HB := Aside0.mk (below_step bB hb); (try clear hb); (try clear hk); obtain ⟨V7, V8, V9, X0, X1, X2⟩ := cf3 b7) | (go_at_call 8; (with_reducible refine (impl_LengthsOf.calls k5 ((rd_T25 b1 a7).f0) ((rd_T25 b1 a7).f1) ((rd_T25 b1 a7).f2) q6 q7 true _ uz7.out).mono ?_); rintro e bm2 ⟨rfl, hb⟩; dsimp only; replace b8 := Aside0.mk (Kd.R_below (oR b8) hb); replace a2 := bQ a2 hb; replace a3 := bQ a3 hb; replace a4 := bQ a4 hb; replace a5 := bQ a5 hb; replace a6 := bQ a6 hb; replace a8 := bQ a8 hb; replace a9 := bQ a9 hb; replace b0 := bQ b0 hb; replace b7 := bQ b7 hb; replace HB := Aside0.mk (below_step bB hb); (try clear hb); obtain ⟨X3, X4, X5, X6, X7, X8⟩ := cf3 b7) | (go_at_call 13; (with_reducible refine (impl_CrossHeight.calls k5 ((rd_T25 b1 a7).f0) ((rd_T25 b1 a7).f1) ((rd_T25 b1 a7).f2) q4 r9 true _ uz9.out).mono ?_); rintro e bm3 ⟨rfl, hb⟩; dsimp only; replace b8 := Aside0.mk (Kd.R_below (oR b8) hb); replace a2 := bQ a2 hb; replace a3 := bQ a3 hb; replace a4 := bQ a4 hb; replace a5 := bQ a5 hb; replace a6 := bQ a6 hb; replace a8 := bQ a8 hb; replace a9 := bQ a9 hb; replace b0 := bQ b0 hb; replace b7 := bQ b7 hb; replace HB := Aside0.mk (below_step bB hb); (try clear hb); obtain ⟨X9, Y0, Y1, Y2, Y3, Y4⟩ := cf3 b7) | (with_reducible refine rgl ?_) | go_skip | go_guarded | go_step | go_upon)
 repeat (go_quiet (first | ((with_reducible refine gate_dst (N := 60) rfl ?_); (try (refine gate_guard (by rfl) ?_; dsimp only)); refine box_ (cs := #[.int .i64 0, .int .i64 0, .int .i64 0]) (t := 25) fun d0 hg bm0 hbox hb => ?_; have b7 := Aside0.mk (hbox); have r5 := bS HB hg; have r6 := bS HB hg; have g9 := bL a2 hg; have h0 := bM a2 hg; have h2 := bL a3 hg; have h3 := bM a3 hg; have h4 := bL a4 hg; have h5 := bM a4 hg; have h6 := bL a5 hg; have h7 := bM a5 hg; have h8 := bL a6 hg; have h9 := bM a6 hg; have i0 := bL a8 hg; have i1 := bM a8 hg; have i2 := bL a9 hg; have i3 := bM a9 hg; have i4 := bL b0 hg; have i5 := bM b0 hg; replace b8 := Aside0.mk (Kd.R_below (Kd.R_elderB (oR b8) d0 (Nat.le_of_eq hg.symm)) hb); replace a2 := bQ a2 hb; replace a3 := bQ a3 hb; replace a4 := bQ a4 hb; replace a5 := bQ a5 hb; replace a6 := bQ a6 hb; replace a8 := bQ a8 hb; replace a9 := bQ a9 hb; replace b0 := bQ b0 hb; replace HB := Aside0.mk (below_step bB hb); clear hb hbox hg; have ay3 := h0.out; have ay4 := g9.out; have ay5 := h3.out; have ay6 := h2.out; have ay7 := h5.out; have ay8 := h4.out; have ay9 := h7.out; have az0 := h6.out; have az1 := h9.out; have az2 := h8.out; have az3 := i1.out; have az4 := i0.out; have az5 := i3.out; have az6 := i2.out; have az7 := i5.out; have az8 := i4.out; obtain ⟨V1, V2, V3, V4, V5, V6⟩ := cf3 b7) | (go_at_call 10; (with_reducible refine (impl_IsWholeCrossing.calls k5 ((rd_T25 b1 a7).f0) ((rd_T25 b1 a7).f1) ((rd_T25 b1 a7).f2) true true _ uz6.out).mono ?_); rintro e bm1 ⟨rfl, hb⟩; dsimp only; replace b8 := Aside0.mk (Kd.R_below (by (with_reducible repeat (first | apply Kd.R_alloc | apply Kd.R_drewN | apply Kd.R_drew)); exact (Kd.R_mono (Kd.R_far (p := ⟨d0, 2, none⟩) (Kd.R_far (p := ⟨d0, 1, none⟩) (Kd.R_far (p := ⟨d0, 0, none⟩) (Kd.R_mono b8.out (fun k_ hk => (⟨hk, hk.2⟩ : _ ∧ k_ ≠ d0))) (fun _ hk => hk.2) (.int .i64 ((rd_T25 b1 a7).f0))) (fun _ hk => hk.2) (.int .i64 ((rd_T25 b1 a7).f1))) (fun _ hk => hk.2) (.int .i64 ((rd_T25 b1 a7).f2))) (fun _ h_ => h_.1))) hb); replace a2 := bQ a2 hb; replace a3 := bQ a3 hb; replace a4 := bQ a4 hb; replace a5 := bQ a5 hb; replace a6 := bQ a6 hb; replace a8 := bQ a8 hb; replace a9 := bQ a9 hb; replace b0 := bQ b0 hb; replace b7 := (bP (.cells #[.int .i64 ((rd_T25 b1 a7).f0), .int .i64 ((rd_T25 b1 a7).f1), .int .i64 ((rd_T25 b1 a7).f2)] 25 (0, 0)) b7 hb); replace HB := Aside0.mk (below_step bB hb); (try clear hb); (try clear hk); obtain ⟨V7, V8, V9, X0, X1, X2⟩ := cf3 b7) | (go_at_call 8; (with_reducible refine (impl_LengthsOf.calls k5 ((rd_T25 b1 a7).f0) ((rd_T25 b1 a7).f1) ((rd_T25 b1 a7).f2) q6 q7 true _ uz7.out).mono ?_); rintro e bm2 ⟨rfl, hb⟩; dsimp only; replace b8 := Aside0.mk (Kd.R_below (oR b8) hb); replace a2 := bQ a2 hb; replace a3 := bQ a3 hb; replace a4 := bQ a4 hb; replace a5 := bQ a5 hb; replace a6 := bQ a6 hb; replace a8 := bQ a8 hb; replace a9 := bQ a9 hb; replace b0 := bQ b0 hb; replace b7 := bQ b7 hb; replace HB := Aside0.mk (below_step bB hb); (try clear hb); obtain ⟨X3, X4, X5, X6, X7, X8⟩ := cf3 b7) | (go_at_call 13; (with_reducible refine (impl_CrossHeight.calls k5 ((rd_T25 b1 a7).f0) ((rd_T25 b1 a7).f1) ((rd_T25 b1 a7).f2) q4 r9 true _ uz9.out).mono ?_); rintro e bm3 ⟨rfl, hb⟩; dsimp only; replace b8 := Aside0.mk (Kd.R_below (oR b8) hb); replace a2 := bQ a2 hb; replace a3 := bQ a3 hb; replace a4 := bQ a4 hb; replace a5 := bQ a5 hb; replace a6 := bQ a6 hb; replace a8 := bQ a8 hb; replace a9 := bQ a9 hb; replace b0 := bQ b0 hb; replace b7 := bQ b7 hb; replace HB := Aside0.mk (below_step bB hb); (try clear hb); obtain ⟨X9, Y0, Y1, Y2, Y3, Y4⟩ := cf3 b7)); try go_wp2_with (first | ((with_reducible refine gate_dst (N := 60) rfl ?_); (try (refine gate_guard (by rfl) ?_; dsimp only)); refine box_ (cs := #[.int .i64 0, .int .i64 0, .int .i64 0]) (t := 25) fun d0 hg bm0 hbox hb => ?_; have b7 := Aside0.mk (hbox); have r5 := bS HB hg; have r6 := bS HB hg; have g9 := bL a2 hg; have h0 := bM a2 hg; have h2 := bL a3 hg; have h3 := bM a3 hg; have h4 := bL a4 hg; have h5 := bM a4 hg; have h6 := bL a5 hg; have h7 := bM a5 hg; have h8 := bL a6 hg; have h9 := bM a6 hg; have i0 := bL a8 hg; have i1 := bM a8 hg; have i2 := bL a9 hg; have i3 := bM a9 hg; have i4 := bL b0 hg; have i5 := bM b0 hg; replace b8 := Aside0.mk (Kd.R_below (Kd.R_elderB (oR b8) d0 (Nat.le_of_eq hg.symm)) hb); replace a2 := bQ a2 hb; replace a3 := bQ a3 hb; replace a4 := bQ a4 hb; replace a5 := bQ a5 hb; replace a6 := bQ a6 hb; replace a8 := bQ a8 hb; replace a9 := bQ a9 hb; replace b0 := bQ b0 hb; replace HB := Aside0.mk (below_step bB hb); clear hb hbox hg; have ay3 := h0.out; have ay4 := g9.out; have ay5 := h3.out; have ay6 := h2.out; have ay7 := h5.out; have ay8 := h4.out; have ay9 := h7.out; have az0 := h6.out; have az1 := h9.out; have az2 := h8.out; have az3 := i1.out; have az4 := i0.out; have az5 := i3.out; have az6 := i2.out; have az7 := i5.out; have az8 := i4.out; obtain ⟨V1, V2, V3, V4, V5, V6⟩ := cf3 b7) | (go_at_call 10; (with_reducible refine (impl_IsWholeCrossing.calls k5 ((rd_T25 b1 a7).f0) ((rd_T25 b1 a7).f1) ((rd_T25 b1 a7).f2) true true _ uz6.out).mono ?_); rintro e bm1 ⟨rfl, hb⟩; dsimp only; replace b8 := Aside0.mk (Kd.R_below (by (with_reducible repeat (first | apply Kd.R_alloc | apply Kd.R_drewN | apply Kd.R_drew)); exact (Kd.R_mono (Kd.R_far (p := ⟨d0, 2, none⟩) (Kd.R_far (p := ⟨d0, 1, none⟩) (Kd.R_far (p := ⟨d0, 0, none⟩) (Kd.R_mono b8.out (fun k_ hk => (⟨hk, hk.2⟩ : _ ∧ k_ ≠ d0))) (fun _ hk => hk.2) (.int .i64 ((rd_T25 b1 a7).f0))) (fun _ hk => hk.2) (.int .i64 ((rd_T25 b1 a7).f1))) (fun _ hk => hk.2) (.int .i64 ((rd_T25 b1 a7).f2))) (fun _ h_ => h_.1))) hb); replace a2 := bQ a2 hb; replace a3 := bQ a3 hb; replace a4 := bQ a4 hb; replace a5 := bQ a5 hb; replace a6 := bQ a6 hb; replace a8 := bQ a8 hb; replace a9 := bQ a9 hb; replace b0 := bQ b0 hb; replace b7 := (bP (.cells #[.int .i64 ((rd_T25 b1 a7).f0), .int .i64 ((rd_T25 b1 a7).f1), .int .i64 ((rd_T25 b1 a7).f2)] 25 (0, 0)) b7 hb); replace HB := Aside0.mk (below_step bB hb); (try clear hb); (try clear hk); obtain ⟨V7, V8, V9, X0, X1, X2⟩ := cf3 b7) | (go_at_call 8; (with_reducible refine (impl_LengthsOf.calls k5 ((rd_T25 b1 a7).f0) ((rd_T25 b1 a7).f1) ((rd_T25 b1 a7).f2) q6 q7 true _ uz7.out).mono ?_); rintro e bm2 ⟨rfl, hb⟩; dsimp only; replace b8 := Aside0.mk (Kd.R_below (oR b8) hb); replace a2 := bQ a2 hb; replace a3 := bQ a3 hb; replace a4 := bQ a4 hb; replace a5 := bQ a5 hb; replace a6 := bQ a6 hb; replace a8 := bQ a8 hb; replace a9 := bQ a9 hb; replace b0 := bQ b0 hb; replace b7 := bQ b7 hb; replace HB := Aside0.mk (below_step bB hb); (try clear hb); obtain ⟨X3, X4, X5, X6, X7, X8⟩ := cf3 b7) | (go_at_call 13; (with_reducible refine (impl_CrossHeight.calls k5 ((rd_T25 b1 a7).f0) ((rd_T25 b1 a7).f1) ((rd_T25 b1 a7).f2) q4 r9 true _ uz9.out).mono ?_); rintro e bm3 ⟨rfl, hb⟩; dsimp only; replace b8 := Aside0.mk (Kd.R_below (oR b8) hb); replace a2 := bQ a2 hb; replace a3 := bQ a3 hb; replace a4 := bQ a4 hb; replace a5 := bQ a5 hb; replace a6 := bQ a6 hb; replace a8 := bQ a8 hb; replace a9 := bQ a9 hb; replace b0 := bQ b0 hb; replace b7 := bQ b7 hb; replace HB := Aside0.mk (below_step bB hb); (try clear hb); obtain ⟨X9, Y0, Y1, Y2, Y3, Y4⟩ := cf3 b7)))
 go_roundg k5
 case measure => exact laws_FnLaddersWhole.jx
 case rel => exact ⟨(true), (wrap64 (a7 + 1)), sR, sR, H', ⟨laws_FnLaddersWhole.jx⟩, ⟨by (with_reducible repeat (first | apply Kd.R_alloc | apply Kd.R_drewN | apply Kd.R_drew)); exact Kd.R_mono b8.out (fun _ hk => ⟨hk.1.1, ⟨hk.1.2.1, ⟨hk.1.2.2.1, ⟨hk.1.2.2.2.1, ⟨hk.1.2.2.2.2.1, ⟨hk.1.2.2.2.2.2.1, ⟨hk.1.2.2.2.2.2.2.1, hk.1.2.2.2.2.2.2.2⟩⟩⟩⟩⟩⟩⟩)⟩, (bA a2), (bA a3), (bA a4), (bA a5), (bA a6), (bA a8), (bA a9), (bA b0), ⟨bB⟩⟩
 )
 replace ag0 := Bool.eq_false_iff.mpr ag0
 subst ag0
 rw [if_neg nft] at H
 by_cases r0 : (((rd_T25 b1 a7).f0) == e5 && (((rd_T25 b1 a7).f1) == e6 && (((rd_T25 b1 a7).f2) == e7))) = true
 ·(
 rw [if_pos r0] at H
 have bm4 : (((rd_T25 b1 a7).f0) == e5 && (((rd_T25 b1 a7).f1) == e6 && (((rd_T25 b1 a7).f2) == e7))) = true := r0
 (try (have bm5 : decide (((rd_T25 b1 a7).f0) = e5 && (((rd_T25 b1 a7).f1) == e6 && (((rd_T25 b1 a7).f2) == e7))) = true := by simpa using r0))
 (try (have bm6 : (((rd_T25 b1 a7).f0) == e5 && (((rd_T25 b1 a7).f1) == e6 && (((rd_T25 b1 a7).f2) == e7))) = true := by simpa using r0))
 clear r0
 have H' := Aside0.mk H
 clear H
 have q8 : 0 ≤ (a7 : Int) := of_decide_eq_true asm
 have q9 : a7 < (b1.length : Int) := of_decide_eq_true (by first | exact c59 | exact v2 | exact asm)
 obtain ⟨bf3, V0, a83, a84, a85⟩ := at_T25 (Kd.R_reads' b8.out).2.2 a7 q8 q9
 cases V0
 replace q8 := eq_true q8
 replace q9 := eq_true q9
 repeat (go_not_at_region 40; first | ((with_reducible refine gate_dst (N := 60) rfl ?_); (try (refine gate_guard (by rfl) ?_; dsimp only)); refine box_ (cs := #[.int .i64 0, .int .i64 0, .int .i64 0]) (t := 25) fun d0 hg bm7 hbox hb => ?_; have b7 := Aside0.mk (hbox); have r5 := bS HB hg; have r6 := bS HB hg; have g9 := bL a2 hg; have h0 := bM a2 hg; have h2 := bL a3 hg; have h3 := bM a3 hg; have h4 := bL a4 hg; have h5 := bM a4 hg; have h6 := bL a5 hg; have h7 := bM a5 hg; have h8 := bL a6 hg; have h9 := bM a6 hg; have i0 := bL a8 hg; have i1 := bM a8 hg; have i2 := bL a9 hg; have i3 := bM a9 hg; have i4 := bL b0 hg; have i5 := bM b0 hg; replace b8 := Aside0.mk (Kd.R_below (Kd.R_elderB (oR b8) d0 (Nat.le_of_eq hg.symm)) hb); replace a2 := bQ a2 hb; replace a3 := bQ a3 hb; replace a4 := bQ a4 hb; replace a5 := bQ a5 hb; replace a6 := bQ a6 hb; replace a8 := bQ a8 hb; replace a9 := bQ a9 hb; replace b0 := bQ b0 hb; replace HB := Aside0.mk (below_step bB hb); clear hb hbox hg; have az9 := h0.out; have b00 := g9.out; have b01 := h3.out; have b02 := h2.out; have b03 := h5.out; have b04 := h4.out; have b05 := h7.out; have b06 := h6.out; have b07 := h9.out; have b08 := h8.out; have b09 := i1.out; have b10 := i0.out; have b11 := i3.out; have b12 := i2.out; have b13 := i5.out; have b14 := i4.out; obtain ⟨Y5, Y6, Y7, Y8, Y9, Z0⟩ := cf3 b7) | (go_at_call 10; (with_reducible refine (impl_IsWholeCrossing.calls k5 ((rd_T25 b1 a7).f0) ((rd_T25 b1 a7).f1) ((rd_T25 b1 a7).f2) true true _ uz6.out).mono ?_); rintro e bm8 ⟨rfl, hb⟩; dsimp only; replace b8 := Aside0.mk (Kd.R_below (by (with_reducible repeat (first | apply Kd.R_alloc | apply Kd.R_drewN | apply Kd.R_drew)); exact (Kd.R_mono (Kd.R_far (p := ⟨d0, 2, none⟩) (Kd.R_far (p := ⟨d0, 1, none⟩) (Kd.R_far (p := ⟨d0, 0, none⟩) (Kd.R_mono b8.out (fun k_ hk => (⟨hk, hk.2⟩ : _ ∧ k_ ≠ d0))) (fun _ hk => hk.2) (.int .i64 ((rd_T25 b1 a7).f0))) (fun _ hk => hk.2) (.int .i64 ((rd_T25 b1 a7).f1))) (fun _ hk => hk.2) (.int .i64 ((rd_T25 b1 a7).f2))) (fun _ h_ => h_.1))) hb); replace a2 := bQ a2 hb; replace a3 := bQ a3 hb; replace a4 := bQ a4 hb; replace a5 := bQ a5 hb; replace a6 := bQ a6 hb; replace a8 := bQ a8 hb; replace a9 := bQ a9 hb; replace b0 := bQ b0 hb; replace b7 := (bP (.cells #[.int .i64 ((rd_T25 b1 a7).f0), .int .i64 ((rd_T25 b1 a7).f1), .int .i64 ((rd_T25 b1 a7).f2)] 25 (0, 0)) b7 hb); replace HB := Aside0.mk (below_step bB hb); (try clear hb); (try clear hk); obtain ⟨Z1, Z2, Z3, Z4, Z5, Z6⟩ := cf3 b7) | (go_at_call 8; (with_reducible refine (impl_LengthsOf.calls k5 ((rd_T25 b1 a7).f0) ((rd_T25 b1 a7).f1) ((rd_T25 b1 a7).f2) q6 q7 true _ uz7.out).mono ?_); rintro e bm9 ⟨rfl, hb⟩; dsimp only; replace b8 := Aside0.mk (Kd.R_below (oR b8) hb); replace a2 := bQ a2 hb; replace a3 := bQ a3 hb; replace a4 := bQ a4 hb; replace a5 := bQ a5 hb; replace a6 := bQ a6 hb; replace a8 := bQ a8 hb; replace a9 := bQ a9 hb; replace b0 := bQ b0 hb; replace b7 := bQ b7 hb; replace HB := Aside0.mk (below_step bB hb); (try clear hb); obtain ⟨Z7, Z8, Z9, a00, a01, a02⟩ := cf3 b7) | (go_at_call 13; (with_reducible refine (impl_CrossHeight.calls k5 ((rd_T25 b1 a7).f0) ((rd_T25 b1 a7).f1) ((rd_T25 b1 a7).f2) q4 r9 true _ uz9.out).mono ?_); rintro e bn0 ⟨rfl, hb⟩; dsimp only; replace b8 := Aside0.mk (Kd.R_below (oR b8) hb); replace a2 := bQ a2 hb; replace a3 := bQ a3 hb; replace a4 := bQ a4 hb; replace a5 := bQ a5 hb; replace a6 := bQ a6 hb; replace a8 := bQ a8 hb; replace a9 := bQ a9 hb; replace b0 := bQ b0 hb; replace b7 := bQ b7 hb; replace HB := Aside0.mk (below_step bB hb); (try clear hb); obtain ⟨a03, a04, a05, a06, a07, a08⟩ := cf3 b7; have b15 := g2.out; have b16 := g1.out; have b17 := g3.out; have b18 := g4.out; have b19 := e1.out; have b20 := e2.out; have b21 := d5.out; have b22 := d6.out; have b23 := g5.out; have b24 := g6.out; have b25 := e3.out; have b26 := e4.out; have b27 := g7.out; have b28 := g8.out; obtain ⟨a09, a10, a11, a12, a13, a14⟩ := cf3 a3) | (with_reducible refine rgl ?_) | go_skip | go_guarded | go_step | go_upon)
 repeat (go_quiet (first | ((with_reducible refine gate_dst (N := 60) rfl ?_); (try (refine gate_guard (by rfl) ?_; dsimp only)); refine box_ (cs := #[.int .i64 0, .int .i64 0, .int .i64 0]) (t := 25) fun d0 hg bm7 hbox hb => ?_; have b7 := Aside0.mk (hbox); have r5 := bS HB hg; have r6 := bS HB hg; have g9 := bL a2 hg; have h0 := bM a2 hg; have h2 := bL a3 hg; have h3 := bM a3 hg; have h4 := bL a4 hg; have h5 := bM a4 hg; have h6 := bL a5 hg; have h7 := bM a5 hg; have h8 := bL a6 hg; have h9 := bM a6 hg; have i0 := bL a8 hg; have i1 := bM a8 hg; have i2 := bL a9 hg; have i3 := bM a9 hg; have i4 := bL b0 hg; have i5 := bM b0 hg; replace b8 := Aside0.mk (Kd.R_below (Kd.R_elderB (oR b8) d0 (Nat.le_of_eq hg.symm)) hb); replace a2 := bQ a2 hb; replace a3 := bQ a3 hb; replace a4 := bQ a4 hb; replace a5 := bQ a5 hb; replace a6 := bQ a6 hb; replace a8 := bQ a8 hb; replace a9 := bQ a9 hb; replace b0 := bQ b0 hb; replace HB := Aside0.mk (below_step bB hb); clear hb hbox hg; have az9 := h0.out; have b00 := g9.out; have b01 := h3.out; have b02 := h2.out; have b03 := h5.out; have b04 := h4.out; have b05 := h7.out; have b06 := h6.out; have b07 := h9.out; have b08 := h8.out; have b09 := i1.out; have b10 := i0.out; have b11 := i3.out; have b12 := i2.out; have b13 := i5.out; have b14 := i4.out; obtain ⟨Y5, Y6, Y7, Y8, Y9, Z0⟩ := cf3 b7) | (go_at_call 10; (with_reducible refine (impl_IsWholeCrossing.calls k5 ((rd_T25 b1 a7).f0) ((rd_T25 b1 a7).f1) ((rd_T25 b1 a7).f2) true true _ uz6.out).mono ?_); rintro e bm8 ⟨rfl, hb⟩; dsimp only; replace b8 := Aside0.mk (Kd.R_below (by (with_reducible repeat (first | apply Kd.R_alloc | apply Kd.R_drewN | apply Kd.R_drew)); exact (Kd.R_mono (Kd.R_far (p := ⟨d0, 2, none⟩) (Kd.R_far (p := ⟨d0, 1, none⟩) (Kd.R_far (p := ⟨d0, 0, none⟩) (Kd.R_mono b8.out (fun k_ hk => (⟨hk, hk.2⟩ : _ ∧ k_ ≠ d0))) (fun _ hk => hk.2) (.int .i64 ((rd_T25 b1 a7).f0))) (fun _ hk => hk.2) (.int .i64 ((rd_T25 b1 a7).f1))) (fun _ hk => hk.2) (.int .i64 ((rd_T25 b1 a7).f2))) (fun _ h_ => h_.1))) hb); replace a2 := bQ a2 hb; replace a3 := bQ a3 hb; replace a4 := bQ a4 hb; replace a5 := bQ a5 hb; replace a6 := bQ a6 hb; replace a8 := bQ a8 hb; replace a9 := bQ a9 hb; replace b0 := bQ b0 hb; replace b7 := (bP (.cells #[.int .i64 ((rd_T25 b1 a7).f0), .int .i64 ((rd_T25 b1 a7).f1), .int .i64 ((rd_T25 b1 a7).f2)] 25 (0, 0)) b7 hb); replace HB := Aside0.mk (below_step bB hb); (try clear hb); (try clear hk); obtain ⟨Z1, Z2, Z3, Z4, Z5, Z6⟩ := cf3 b7) | (go_at_call 8; (with_reducible refine (impl_LengthsOf.calls k5 ((rd_T25 b1 a7).f0) ((rd_T25 b1 a7).f1) ((rd_T25 b1 a7).f2) q6 q7 true _ uz7.out).mono ?_); rintro e bm9 ⟨rfl, hb⟩; dsimp only; replace b8 := Aside0.mk (Kd.R_below (oR b8) hb); replace a2 := bQ a2 hb; replace a3 := bQ a3 hb; replace a4 := bQ a4 hb; replace a5 := bQ a5 hb; replace a6 := bQ a6 hb; replace a8 := bQ a8 hb; replace a9 := bQ a9 hb; replace b0 := bQ b0 hb; replace b7 := bQ b7 hb; replace HB := Aside0.mk (below_step bB hb); (try clear hb); obtain ⟨Z7, Z8, Z9, a00, a01, a02⟩ := cf3 b7) | (go_at_call 13; (with_reducible refine (impl_CrossHeight.calls k5 ((rd_T25 b1 a7).f0) ((rd_T25 b1 a7).f1) ((rd_T25 b1 a7).f2) q4 r9 true _ uz9.out).mono ?_); rintro e bn0 ⟨rfl, hb⟩; dsimp only; replace b8 := Aside0.mk (Kd.R_below (oR b8) hb); replace a2 := bQ a2 hb; replace a3 := bQ a3 hb; replace a4 := bQ a4 hb; replace a5 := bQ a5 hb; replace a6 := bQ a6 hb; replace a8 := bQ a8 hb; replace a9 := bQ a9 hb; replace b0 := bQ b0 hb; replace b7 := bQ b7 hb; replace HB := Aside0.mk (below_step bB hb); (try clear hb); obtain ⟨a03, a04, a05, a06, a07, a08⟩ := cf3 b7; have b15 := g2.out; have b16 := g1.out; have b17 := g3.out; have b18 := g4.out; have b19 := e1.out; have b20 := e2.out; have b21 := d5.out; have b22 := d6.out; have b23 := g5.out; have b24 := g6.out; have b25 := e3.out; have b26 := e4.out; have b27 := g7.out; have b28 := g8.out; obtain ⟨a09, a10, a11, a12, a13, a14⟩ := cf3 a3)); try go_wp2_with (first | ((with_reducible refine gate_dst (N := 60) rfl ?_); (try (refine gate_guard (by rfl) ?_; dsimp only)); refine box_ (cs := #[.int .i64 0, .int .i64 0, .int .i64 0]) (t := 25) fun d0 hg bm7 hbox hb => ?_; have b7 := Aside0.mk (hbox); have r5 := bS HB hg; have r6 := bS HB hg; have g9 := bL a2 hg; have h0 := bM a2 hg; have h2 := bL a3 hg; have h3 := bM a3 hg; have h4 := bL a4 hg; have h5 := bM a4 hg; have h6 := bL a5 hg; have h7 := bM a5 hg; have h8 := bL a6 hg; have h9 := bM a6 hg; have i0 := bL a8 hg; have i1 := bM a8 hg; have i2 := bL a9 hg; have i3 := bM a9 hg; have i4 := bL b0 hg; have i5 := bM b0 hg; replace b8 := Aside0.mk (Kd.R_below (Kd.R_elderB (oR b8) d0 (Nat.le_of_eq hg.symm)) hb); replace a2 := bQ a2 hb; replace a3 := bQ a3 hb; replace a4 := bQ a4 hb; replace a5 := bQ a5 hb; replace a6 := bQ a6 hb; replace a8 := bQ a8 hb; replace a9 := bQ a9 hb; replace b0 := bQ b0 hb; replace HB := Aside0.mk (below_step bB hb); clear hb hbox hg; have az9 := h0.out; have b00 := g9.out; have b01 := h3.out; have b02 := h2.out; have b03 := h5.out; have b04 := h4.out; have b05 := h7.out; have b06 := h6.out; have b07 := h9.out; have b08 := h8.out; have b09 := i1.out; have b10 := i0.out; have b11 := i3.out; have b12 := i2.out; have b13 := i5.out; have b14 := i4.out; obtain ⟨Y5, Y6, Y7, Y8, Y9, Z0⟩ := cf3 b7) | (go_at_call 10; (with_reducible refine (impl_IsWholeCrossing.calls k5 ((rd_T25 b1 a7).f0) ((rd_T25 b1 a7).f1) ((rd_T25 b1 a7).f2) true true _ uz6.out).mono ?_); rintro e bm8 ⟨rfl, hb⟩; dsimp only; replace b8 := Aside0.mk (Kd.R_below (by (with_reducible repeat (first | apply Kd.R_alloc | apply Kd.R_drewN | apply Kd.R_drew)); exact (Kd.R_mono (Kd.R_far (p := ⟨d0, 2, none⟩) (Kd.R_far (p := ⟨d0, 1, none⟩) (Kd.R_far (p := ⟨d0, 0, none⟩) (Kd.R_mono b8.out (fun k_ hk => (⟨hk, hk.2⟩ : _ ∧ k_ ≠ d0))) (fun _ hk => hk.2) (.int .i64 ((rd_T25 b1 a7).f0))) (fun _ hk => hk.2) (.int .i64 ((rd_T25 b1 a7).f1))) (fun _ hk => hk.2) (.int .i64 ((rd_T25 b1 a7).f2))) (fun _ h_ => h_.1))) hb); replace a2 := bQ a2 hb; replace a3 := bQ a3 hb; replace a4 := bQ a4 hb; replace a5 := bQ a5 hb; replace a6 := bQ a6 hb; replace a8 := bQ a8 hb; replace a9 := bQ a9 hb; replace b0 := bQ b0 hb; replace b7 := (bP (.cells #[.int .i64 ((rd_T25 b1 a7).f0), .int .i64 ((rd_T25 b1 a7).f1), .int .i64 ((rd_T25 b1 a7).f2)] 25 (0, 0)) b7 hb); replace HB := Aside0.mk (below_step bB hb); (try clear hb); (try clear hk); obtain ⟨Z1, Z2, Z3, Z4, Z5, Z6⟩ := cf3 b7) | (go_at_call 8; (with_reducible refine (impl_LengthsOf.calls k5 ((rd_T25 b1 a7).f0) ((rd_T25 b1 a7).f1) ((rd_T25 b1 a7).f2) q6 q7 true _ uz7.out).mono ?_); rintro e bm9 ⟨rfl, hb⟩; dsimp only; replace b8 := Aside0.mk (Kd.R_below (oR b8) hb); replace a2 := bQ a2 hb; replace a3 := bQ a3 hb; replace a4 := bQ a4 hb; replace a5 := bQ a5 hb; replace a6 := bQ a6 hb; replace a8 := bQ a8 hb; replace a9 := bQ a9 hb; replace b0 := bQ b0 hb; replace b7 := bQ b7 hb; replace HB := Aside0.mk (below_step bB hb); (try clear hb); obtain ⟨Z7, Z8, Z9, a00, a01, a02⟩ := cf3 b7) | (go_at_call 13; (with_reducible refine (impl_CrossHeight.calls k5 ((rd_T25 b1 a7).f0) ((rd_T25 b1 a7).f1) ((rd_T25 b1 a7).f2) q4 r9 true _ uz9.out).mono ?_); rintro e bn0 ⟨rfl, hb⟩; dsimp only; replace b8 := Aside0.mk (Kd.R_below (oR b8) hb); replace a2 := bQ a2 hb; replace a3 := bQ a3 hb; replace a4 := bQ a4 hb; replace a5 := bQ a5 hb; replace a6 := bQ a6 hb; replace a8 := bQ a8 hb; replace a9 := bQ a9 hb; replace b0 := bQ b0 hb; replace b7 := bQ b7 hb; replace HB := Aside0.mk (below_step bB hb); (try clear hb); obtain ⟨a03, a04, a05, a06, a07, a08⟩ := cf3 b7; have b15 := g2.out; have b16 := g1.out; have b17 := g3.out; have b18 := g4.out; have b19 := e1.out; have b20 := e2.out; have b21 := d5.out; have b22 := d6.out; have b23 := g5.out; have b24 := g6.out; have b25 := e3.out; have b26 := e4.out; have b27 := g7.out; have b28 := g8.out; obtain ⟨a09, a10, a11, a12, a13, a14⟩ := cf3 a3)))
 go_roundg k5
 case measure => exact laws_FnLaddersWhole.jx
 case rel => exact ⟨((q4 == q1)), (wrap64 (a7 + 1)), sR, sR, H', ⟨laws_FnLaddersWhole.jx⟩, ⟨by (with_reducible repeat (first | apply Kd.R_alloc | apply Kd.R_drewN | apply Kd.R_drew)); exact Kd.R_mono b8.out (fun _ hk => ⟨hk.1.1, ⟨hk.1.2.1, ⟨hk.1.2.2.1, ⟨hk.1.2.2.2.1, ⟨hk.1.2.2.2.2.1, ⟨hk.1.2.2.2.2.2.1, ⟨hk.1.2.2.2.2.2.2.1, hk.1.2.2.2.2.2.2.2⟩⟩⟩⟩⟩⟩⟩)⟩, (bA a2), (bA a3), (bA a4), (bA a5), (bA a6), (bA a8), (bA a9), (bA b0), ⟨bB⟩⟩
 )
 rw [if_neg r0] at H
 have bm4 : (((rd_T25 b1 a7).f0) == e5 && (((rd_T25 b1 a7).f1) == e6 && (((rd_T25 b1 a7).f2) == e7))) = false := by simpa using r0
 (try (have bm5 : decide (((rd_T25 b1 a7).f0) = e5 && (((rd_T25 b1 a7).f1) == e6 && (((rd_T25 b1 a7).f2) == e7))) = false := by simpa using r0))
 (try (have bm6 : (((rd_T25 b1 a7).f0) == e5 && (((rd_T25 b1 a7).f1) == e6 && (((rd_T25 b1 a7).f2) == e7))) = false := by simpa using r0))
 (try (have c69 : ¬ (((rd_T25 b1 a7).f0) = e5 && (((rd_T25 b1 a7).f1) == e6 && (((rd_T25 b1 a7).f2) == e7))) := by simpa using r0))
 clear r0
 have H' := Aside0.mk H
 clear H
 have q8 : 0 ≤ (a7 : Int) := of_decide_eq_true asm
 have q9 : a7 < (b1.length : Int) := of_decide_eq_true (by first | exact c59 | exact v2 | exact asm)
 obtain ⟨bf3, V0, a83, a84, a85⟩ := at_T25 (Kd.R_reads' b8.out).2.2 a7 q8 q9
 cases V0
 replace q8 := eq_true q8
 replace q9 := eq_true q9
 repeat (go_not_at_region 40; first | ((with_reducible refine gate_dst (N := 60) rfl ?_); (try (refine gate_guard (by rfl) ?_; dsimp only)); refine box_ (cs := #[.int .i64 0, .int .i64 0, .int .i64 0]) (t := 25) fun d0 hg bn1 hbox hb => ?_; have b7 := Aside0.mk (hbox); have r5 := bS HB hg; have r6 := bS HB hg; have g9 := bL a2 hg; have h0 := bM a2 hg; have h2 := bL a3 hg; have h3 := bM a3 hg; have h4 := bL a4 hg; have h5 := bM a4 hg; have h6 := bL a5 hg; have h7 := bM a5 hg; have h8 := bL a6 hg; have h9 := bM a6 hg; have i0 := bL a8 hg; have i1 := bM a8 hg; have i2 := bL a9 hg; have i3 := bM a9 hg; have i4 := bL b0 hg; have i5 := bM b0 hg; replace b8 := Aside0.mk (Kd.R_below (Kd.R_elderB (oR b8) d0 (Nat.le_of_eq hg.symm)) hb); replace a2 := bQ a2 hb; replace a3 := bQ a3 hb; replace a4 := bQ a4 hb; replace a5 := bQ a5 hb; replace a6 := bQ a6 hb; replace a8 := bQ a8 hb; replace a9 := bQ a9 hb; replace b0 := bQ b0 hb; replace HB := Aside0.mk (below_step bB hb); clear hb hbox hg; have b29 := h0.out; have b30 := g9.out; have b31 := h3.out; have b32 := h2.out; have b33 := h5.out; have b34 := h4.out; have b35 := h7.out; have b36 := h6.out; have b37 := h9.out; have b38 := h8.out; have b39 := i1.out; have b40 := i0.out; have b41 := i3.out; have b42 := i2.out; have b43 := i5.out; have b44 := i4.out; obtain ⟨a15, a16, a17, a18, a19, a20⟩ := cf3 b7) | (go_at_call 10; (with_reducible refine (impl_IsWholeCrossing.calls k5 ((rd_T25 b1 a7).f0) ((rd_T25 b1 a7).f1) ((rd_T25 b1 a7).f2) true true _ uz6.out).mono ?_); rintro e bn2 ⟨rfl, hb⟩; dsimp only; replace b8 := Aside0.mk (Kd.R_below (by (with_reducible repeat (first | apply Kd.R_alloc | apply Kd.R_drewN | apply Kd.R_drew)); exact (Kd.R_mono (Kd.R_far (p := ⟨d0, 2, none⟩) (Kd.R_far (p := ⟨d0, 1, none⟩) (Kd.R_far (p := ⟨d0, 0, none⟩) (Kd.R_mono b8.out (fun k_ hk => (⟨hk, hk.2⟩ : _ ∧ k_ ≠ d0))) (fun _ hk => hk.2) (.int .i64 ((rd_T25 b1 a7).f0))) (fun _ hk => hk.2) (.int .i64 ((rd_T25 b1 a7).f1))) (fun _ hk => hk.2) (.int .i64 ((rd_T25 b1 a7).f2))) (fun _ h_ => h_.1))) hb); replace a2 := bQ a2 hb; replace a3 := bQ a3 hb; replace a4 := bQ a4 hb; replace a5 := bQ a5 hb; replace a6 := bQ a6 hb; replace a8 := bQ a8 hb; replace a9 := bQ a9 hb; replace b0 := bQ b0 hb; replace b7 := (bP (.cells #[.int .i64 ((rd_T25 b1 a7).f0), .int .i64 ((rd_T25 b1 a7).f1), .int .i64 ((rd_T25 b1 a7).f2)] 25 (0, 0)) b7 hb); replace HB := Aside0.mk (below_step bB hb); (try clear hb); (try clear hk); obtain ⟨a21, a22, a23, a24, a25, a26⟩ := cf3 b7) | (go_at_call 8; (with_reducible refine (impl_LengthsOf.calls k5 ((rd_T25 b1 a7).f0) ((rd_T25 b1 a7).f1) ((rd_T25 b1 a7).f2) q6 q7 true _ uz7.out).mono ?_); rintro e bn3 ⟨rfl, hb⟩; dsimp only; replace b8 := Aside0.mk (Kd.R_below (oR b8) hb); replace a2 := bQ a2 hb; replace a3 := bQ a3 hb; replace a4 := bQ a4 hb; replace a5 := bQ a5 hb; replace a6 := bQ a6 hb; replace a8 := bQ a8 hb; replace a9 := bQ a9 hb; replace b0 := bQ b0 hb; replace b7 := bQ b7 hb; replace HB := Aside0.mk (below_step bB hb); (try clear hb); obtain ⟨a27, a28, a29, a30, a31, a32⟩ := cf3 b7) | (go_at_call 13; (with_reducible refine (impl_CrossHeight.calls k5 ((rd_T25 b1 a7).f0) ((rd_T25 b1 a7).f1) ((rd_T25 b1 a7).f2) q4 r9 true _ uz9.out).mono ?_); rintro e bn4 ⟨rfl, hb⟩; dsimp only; replace b8 := Aside0.mk (Kd.R_below (oR b8) hb); replace a2 := bQ a2 hb; replace a3 := bQ a3 hb; replace a4 := bQ a4 hb; replace a5 := bQ a5 hb; replace a6 := bQ a6 hb; replace a8 := bQ a8 hb; replace a9 := bQ a9 hb; replace b0 := bQ b0 hb; replace b7 := bQ b7 hb; replace HB := Aside0.mk (below_step bB hb); (try clear hb); obtain ⟨a33, a34, a35, a36, a37, a38⟩ := cf3 b7; have b45 := g2.out; have b46 := g1.out; have b47 := g3.out; have b48 := g4.out; have b49 := e1.out; have b50 := e2.out; have b51 := d5.out; have b52 := d6.out; have b53 := g5.out; have b54 := g6.out; have b55 := e3.out; have b56 := e4.out; have b57 := g7.out; have b58 := g8.out; obtain ⟨a39, a40, a41, a42, a43, a44⟩ := cf3 a3) | (with_reducible refine rgl ?_) | go_skip | go_guarded | go_step | go_upon)
 repeat (go_quiet (first | ((with_reducible refine gate_dst (N := 60) rfl ?_); (try (refine gate_guard (by rfl) ?_; dsimp only)); refine box_ (cs := #[.int .i64 0, .int .i64 0, .int .i64 0]) (t := 25) fun d0 hg bn1 hbox hb => ?_; have b7 := Aside0.mk (hbox); have r5 := bS HB hg; have r6 := bS HB hg; have g9 := bL a2 hg; have h0 := bM a2 hg; have h2 := bL a3 hg; have h3 := bM a3 hg; have h4 := bL a4 hg; have h5 := bM a4 hg; have h6 := bL a5 hg; have h7 := bM a5 hg; have h8 := bL a6 hg; have h9 := bM a6 hg; have i0 := bL a8 hg; have i1 := bM a8 hg; have i2 := bL a9 hg; have i3 := bM a9 hg; have i4 := bL b0 hg; have i5 := bM b0 hg; replace b8 := Aside0.mk (Kd.R_below (Kd.R_elderB (oR b8) d0 (Nat.le_of_eq hg.symm)) hb); replace a2 := bQ a2 hb; replace a3 := bQ a3 hb; replace a4 := bQ a4 hb; replace a5 := bQ a5 hb; replace a6 := bQ a6 hb; replace a8 := bQ a8 hb; replace a9 := bQ a9 hb; replace b0 := bQ b0 hb; replace HB := Aside0.mk (below_step bB hb); clear hb hbox hg; have b29 := h0.out; have b30 := g9.out; have b31 := h3.out; have b32 := h2.out; have b33 := h5.out; have b34 := h4.out; have b35 := h7.out; have b36 := h6.out; have b37 := h9.out; have b38 := h8.out; have b39 := i1.out; have b40 := i0.out; have b41 := i3.out; have b42 := i2.out; have b43 := i5.out; have b44 := i4.out; obtain ⟨a15, a16, a17, a18, a19, a20⟩ := cf3 b7) | (go_at_call 10; (with_reducible refine (impl_IsWholeCrossing.calls k5 ((rd_T25 b1 a7).f0) ((rd_T25 b1 a7).f1) ((rd_T25 b1 a7).f2) true true _ uz6.out).mono ?_); rintro e bn2 ⟨rfl, hb⟩; dsimp only; replace b8 := Aside0.mk (Kd.R_below (by (with_reducible repeat (first | apply Kd.R_alloc | apply Kd.R_drewN | apply Kd.R_drew)); exact (Kd.R_mono (Kd.R_far (p := ⟨d0, 2, none⟩) (Kd.R_far (p := ⟨d0, 1, none⟩) (Kd.R_far (p := ⟨d0, 0, none⟩) (Kd.R_mono b8.out (fun k_ hk => (⟨hk, hk.2⟩ : _ ∧ k_ ≠ d0))) (fun _ hk => hk.2) (.int .i64 ((rd_T25 b1 a7).f0))) (fun _ hk => hk.2) (.int .i64 ((rd_T25 b1 a7).f1))) (fun _ hk => hk.2) (.int .i64 ((rd_T25 b1 a7).f2))) (fun _ h_ => h_.1))) hb); replace a2 := bQ a2 hb; replace a3 := bQ a3 hb; replace a4 := bQ a4 hb; replace a5 := bQ a5 hb; replace a6 := bQ a6 hb; replace a8 := bQ a8 hb; replace a9 := bQ a9 hb; replace b0 := bQ b0 hb; replace b7 := (bP (.cells #[.int .i64 ((rd_T25 b1 a7).f0), .int .i64 ((rd_T25 b1 a7).f1), .int .i64 ((rd_T25 b1 a7).f2)] 25 (0, 0)) b7 hb); replace HB := Aside0.mk (below_step bB hb); (try clear hb); (try clear hk); obtain ⟨a21, a22, a23, a24, a25, a26⟩ := cf3 b7) | (go_at_call 8; (with_reducible refine (impl_LengthsOf.calls k5 ((rd_T25 b1 a7).f0) ((rd_T25 b1 a7).f1) ((rd_T25 b1 a7).f2) q6 q7 true _ uz7.out).mono ?_); rintro e bn3 ⟨rfl, hb⟩; dsimp only; replace b8 := Aside0.mk (Kd.R_below (oR b8) hb); replace a2 := bQ a2 hb; replace a3 := bQ a3 hb; replace a4 := bQ a4 hb; replace a5 := bQ a5 hb; replace a6 := bQ a6 hb; replace a8 := bQ a8 hb; replace a9 := bQ a9 hb; replace b0 := bQ b0 hb; replace b7 := bQ b7 hb; replace HB := Aside0.mk (below_step bB hb); (try clear hb); obtain ⟨a27, a28, a29, a30, a31, a32⟩ := cf3 b7) | (go_at_call 13; (with_reducible refine (impl_CrossHeight.calls k5 ((rd_T25 b1 a7).f0) ((rd_T25 b1 a7).f1) ((rd_T25 b1 a7).f2) q4 r9 true _ uz9.out).mono ?_); rintro e bn4 ⟨rfl, hb⟩; dsimp only; replace b8 := Aside0.mk (Kd.R_below (oR b8) hb); replace a2 := bQ a2 hb; replace a3 := bQ a3 hb; replace a4 := bQ a4 hb; replace a5 := bQ a5 hb; replace a6 := bQ a6 hb; replace a8 := bQ a8 hb; replace a9 := bQ a9 hb; replace b0 := bQ b0 hb; replace b7 := bQ b7 hb; replace HB := Aside0.mk (below_step bB hb); (try clear hb); obtain ⟨a33, a34, a35, a36, a37, a38⟩ := cf3 b7; have b45 := g2.out; have b46 := g1.out; have b47 := g3.out; have b48 := g4.out; have b49 := e1.out; have b50 := e2.out; have b51 := d5.out; have b52 := d6.out; have b53 := g5.out; have b54 := g6.out; have b55 := e3.out; have b56 := e4.out; have b57 := g7.out; have b58 := g8.out; obtain ⟨a39, a40, a41, a42, a43, a44⟩ := cf3 a3)); try go_wp2_with (first | ((with_reducible refine gate_dst (N := 60) rfl ?_); (try (refine gate_guard (by rfl) ?_; dsimp only)); refine box_ (cs := #[.int .i64 0, .int .i64 0, .int .i64 0]) (t := 25) fun d0 hg bn1 hbox hb => ?_; have b7 := Aside0.mk (hbox); have r5 := bS HB hg; have r6 := bS HB hg; have g9 := bL a2 hg; have h0 := bM a2 hg; have h2 := bL a3 hg; have h3 := bM a3 hg; have h4 := bL a4 hg; have h5 := bM a4 hg; have h6 := bL a5 hg; have h7 := bM a5 hg; have h8 := bL a6 hg; have h9 := bM a6 hg; have i0 := bL a8 hg; have i1 := bM a8 hg; have i2 := bL a9 hg; have i3 := bM a9 hg; have i4 := bL b0 hg; have i5 := bM b0 hg; replace b8 := Aside0.mk (Kd.R_below (Kd.R_elderB (oR b8) d0 (Nat.le_of_eq hg.symm)) hb); replace a2 := bQ a2 hb; replace a3 := bQ a3 hb; replace a4 := bQ a4 hb; replace a5 := bQ a5 hb; replace a6 := bQ a6 hb; replace a8 := bQ a8 hb; replace a9 := bQ a9 hb; replace b0 := bQ b0 hb; replace HB := Aside0.mk (below_step bB hb); clear hb hbox hg; have b29 := h0.out; have b30 := g9.out; have b31 := h3.out; have b32 := h2.out; have b33 := h5.out; have b34 := h4.out; have b35 := h7.out; have b36 := h6.out; have b37 := h9.out; have b38 := h8.out; have b39 := i1.out; have b40 := i0.out; have b41 := i3.out; have b42 := i2.out; have b43 := i5.out; have b44 := i4.out; obtain ⟨a15, a16, a17, a18, a19, a20⟩ := cf3 b7) | (go_at_call 10; (with_reducible refine (impl_IsWholeCrossing.calls k5 ((rd_T25 b1 a7).f0) ((rd_T25 b1 a7).f1) ((rd_T25 b1 a7).f2) true true _ uz6.out).mono ?_); rintro e bn2 ⟨rfl, hb⟩; dsimp only; replace b8 := Aside0.mk (Kd.R_below (by (with_reducible repeat (first | apply Kd.R_alloc | apply Kd.R_drewN | apply Kd.R_drew)); exact (Kd.R_mono (Kd.R_far (p := ⟨d0, 2, none⟩) (Kd.R_far (p := ⟨d0, 1, none⟩) (Kd.R_far (p := ⟨d0, 0, none⟩) (Kd.R_mono b8.out (fun k_ hk => (⟨hk, hk.2⟩ : _ ∧ k_ ≠ d0))) (fun _ hk => hk.2) (.int .i64 ((rd_T25 b1 a7).f0))) (fun _ hk => hk.2) (.int .i64 ((rd_T25 b1 a7).f1))) (fun _ hk => hk.2) (.int .i64 ((rd_T25 b1 a7).f2))) (fun _ h_ => h_.1))) hb); replace a2 := bQ a2 hb; replace a3 := bQ a3 hb; replace a4 := bQ a4 hb; replace a5 := bQ a5 hb; replace a6 := bQ a6 hb; replace a8 := bQ a8 hb; replace a9 := bQ a9 hb; replace b0 := bQ b0 hb; replace b7 := (bP (.cells #[.int .i64 ((rd_T25 b1 a7).f0), .int .i64 ((rd_T25 b1 a7).f1), .int .i64 ((rd_T25 b1 a7).f2)] 25 (0, 0)) b7 hb); replace HB := Aside0.mk (below_step bB hb); (try clear hb); (try clear hk); obtain ⟨a21, a22, a23, a24, a25, a26⟩ := cf3 b7) | (go_at_call 8; (with_reducible refine (impl_LengthsOf.calls k5 ((rd_T25 b1 a7).f0) ((rd_T25 b1 a7).f1) ((rd_T25 b1 a7).f2) q6 q7 true _ uz7.out).mono ?_); rintro e bn3 ⟨rfl, hb⟩; dsimp only; replace b8 := Aside0.mk (Kd.R_below (oR b8) hb); replace a2 := bQ a2 hb; replace a3 := bQ a3 hb; replace a4 := bQ a4 hb; replace a5 := bQ a5 hb; replace a6 := bQ a6 hb; replace a8 := bQ a8 hb; replace a9 := bQ a9 hb; replace b0 := bQ b0 hb; replace b7 := bQ b7 hb; replace HB := Aside0.mk (below_step bB hb); (try clear hb); obtain ⟨a27, a28, a29, a30, a31, a32⟩ := cf3 b7) | (go_at_call 13; (with_reducible refine (impl_CrossHeight.calls k5 ((rd_T25 b1 a7).f0) ((rd_T25 b1 a7).f1) ((rd_T25 b1 a7).f2) q4 r9 true _ uz9.out).mono ?_); rintro e bn4 ⟨rfl, hb⟩; dsimp only; replace b8 := Aside0.mk (Kd.R_below (oR b8) hb); replace a2 := bQ a2 hb; replace a3 := bQ a3 hb; replace a4 := bQ a4 hb; replace a5 := bQ a5 hb; replace a6 := bQ a6 hb; replace a8 := bQ a8 hb; replace a9 := bQ a9 hb; replace b0 := bQ b0 hb; replace b7 := bQ b7 hb; replace HB := Aside0.mk (below_step bB hb); (try clear hb); obtain ⟨a33, a34, a35, a36, a37, a38⟩ := cf3 b7; have b45 := g2.out; have b46 := g1.out; have b47 := g3.out; have b48 := g4.out; have b49 := e1.out; have b50 := e2.out; have b51 := d5.out; have b52 := d6.out; have b53 := g5.out; have b54 := g6.out; have b55 := e3.out; have b56 := e4.out; have b57 := g7.out; have b58 := g8.out; obtain ⟨a39, a40, a41, a42, a43, a44⟩ := cf3 a3)))
 go_roundg k5
 case measure => exact laws_FnLaddersWhole.jx
 case rel => exact ⟨(false), (wrap64 (a7 + 1)), sR, sR, H', ⟨laws_FnLaddersWhole.jx⟩, ⟨by (with_reducible repeat (first | apply Kd.R_alloc | apply Kd.R_drewN | apply Kd.R_drew)); exact Kd.R_mono b8.out (fun _ hk => ⟨hk.1.1, ⟨hk.1.2.1, ⟨hk.1.2.2.1, ⟨hk.1.2.2.2.1, ⟨hk.1.2.2.2.2.1, ⟨hk.1.2.2.2.2.2.1, ⟨hk.1.2.2.2.2.2.2.1, hk.1.2.2.2.2.2.2.2⟩⟩⟩⟩⟩⟩⟩)⟩, (bA a2), (bA a3), (bA a4), (bA a5), (bA a6), (bA a8), (bA a9), (bA b0), ⟨bB⟩⟩
 )
 rw [if_neg af8] at H
 exact fy HT_l H
 )
 replace af7 := Bool.eq_false_iff.mpr af7
 subst af7
 rw [if_neg nft] at H
 exact fy HT_l H
 )
 replace af3 := Bool.eq_false_iff.mpr af3
 subst af3
 rw [if_neg nft] at H
 exact fy HT_l H
 )
 replace af2 := Bool.eq_false_iff.mpr af2
 subst af2
 rw [if_neg nft] at H
 exact fy HT_l H
 )
 replace af1 := Bool.eq_false_iff.mpr af1
 subst af1
 rw [if_neg nft] at H
 exact fy HT_l H
 )
 rw [if_neg af0] at H
 exact absurd H (by simp)
 )
 rw [if_neg ae9] at H
 exact absurd H (by simp)
 )
 rw [if_neg M0] at H
 have v2 : decide (a7 < (b1.length : Int)) = false := decide_eq_false M0
 clear M0
 (first | rw [v2] | (simp only [i64_w, i32_w]; rw [v2]) | skip)
 by_cases ag1 : q2 = true
 ·(
 subst ag1
 rw [if_pos rfl] at H
 by_cases ag2 : F4 = true
 ·(
 subst ag2
 rw [if_pos rfl] at H
 have H' := Aside0.mk H
 clear H
 repeat (go_not_at_region 40; first | (with_reducible refine rgl ?_) | go_skip | go_guarded | go_step | go_upon)
 repeat (go_quiet (fail); try go_wp2)
 go_meet
 case rel => exact ⟨_, H', ⟨laws_FnLaddersWhole.jx⟩, (bA a2), (bA a3), (bA a4), (bA a5), (bA a6), (bA a8), (bA a9), (bA b0), ⟨bB⟩⟩
 )
 replace ag2 := Bool.eq_false_iff.mpr ag2
 subst ag2
 rw [if_neg nft] at H
 exact fy HT_l H
 )
 replace ag1 := Bool.eq_false_iff.mpr ag1
 subst ag1
 rw [if_neg nft] at H
 have H' := Aside0.mk H
 clear H
 repeat (go_not_at_region 40; first | (with_reducible refine rgl ?_) | go_skip | go_guarded | go_step | go_upon)
 repeat (go_quiet (fail); try go_wp2)
 go_meet
 case rel => exact ⟨_, H', ⟨laws_FnLaddersWhole.jx⟩, (bA a2), (bA a3), (bA a4), (bA a5), (bA a6), (bA a8), (bA a9), (bA b0), ⟨bB⟩⟩
 )
 )
 )
 replace U9 := Bool.eq_false_iff.mpr U9
 subst U9
 rw [if_neg nft] at H
 have H' := Aside0.mk H
 clear H
 repeat (go_not_at_region 40; first | (with_reducible refine rgl ?_) | go_skip | go_guarded | go_step | go_upon)
 repeat (go_quiet (fail); try go_wp2)
 go_meet
 case rel => exact ⟨_, H', ⟨laws_FnLaddersWhole.jx⟩, (bA a2), (bA a3), (bA a4), (bA a5), (bA a6), (bA a8), (bA a9), (bA b0), ⟨bB⟩⟩
 )
 )
 clear ae8
 obtain ⟨kq, HA, HJ255, a2, a3, a4, a5, a6, a8, a9, b0, HB⟩ := hcut
 rename_i K_ aK_
 exact aK_ _ _ (hR_ k A0 c0 l0 A1 c1 l1 r w d2 d3 d4 v9 x0 uz0 a86 a87 a88 uz1 uz2 x2 a89 a90 a91 x3 M1 a92 a93 e0 u122 u123 u124 u125 u126 u127 u128 u129 u130 u131 u132 u133 u134 u135 u136 u137 u138 u139 u140 u141 u142 u143 u144 u145 u146 u147 u148 u149 u150 u151 u152 u153 u154 u155 u156 u157 u158 u159 u160 u161 u162 u163 u164 u165 u166 u167 u168 u169 u170 u171 u172 u173 u174 u175 u176 x5 u22 u23 u24 u179 u180 u181 u182 u183 u184 u185 u186 u187 u188 u189 u190 u191 u192 u193 u194 u195 u196 u197 u198 u199 u200 u201 u202 u203 u204 u205 u206 u207 u208 u209 u210 u211 u212 u213 u214 u215 u216 u217 u218 u219 u220 u221 u222 u223 u224 u225 u226 u227 u228 u229 u230 u231 u232 u233 u234 u235 u236 u237 u238 u239 u240 u241 u242 u243 u244 u245 u246 u247 u248 u249 u250 u251 u252 u253 u254 u255 u256 u257 u258 d1 o6 c2 y2 o7 a94 y3 M2 a95 a96 o4 b1 r8 o8 a97 e5 e6 e7 q1 q2 m6 m7 m8 a98 a99 d7 d8 d9 o9 i6 i7 i9 q5 m9 n0 n1 aa0 p2 j0 j1 j2 q3 e8 e9 g0 aa1 aa2 bk1 K1 bk2 c3 c5 c6 c7 c8 c9 b4 u334 u335 u336 u337 u338 u339 u340 u341 u342 u343 u344 u345 u346 u347 u348 u349 u350 u351 u352 u353 u354 u355 u356 u357 u358 u359 u360 u361 u362 u363 u364 u365 u366 u367 u368 u369 u370 u371 u372 u373 u374 u375 u376 u377 u378 u379 u380 u381 u382 u383 u384 u385 u386 u387 u388 u389 u390 u391 u392 u393 u394 u395 u396 u397 u398 u399 u400 u401 u402 u403 u404 u405 u406 u407 u408 u409 u410 u411 u412 b75 u56 u57 u415 u416 u417 u418 u419 u420 u421 u422 u423 u424 u425 u426 u427 u428 u429 u430 u431 u432 u433 u434 u435 u436 u437 u438 u439 u440 u441 u442 u443 u444 u445 u446 u447 u448 u449 u450 u451 u452 u453 u454 u455 u456 u457 u458 u459 u460 u461 u462 u463 u464 u465 u466 u467 u468 u469 u470 u471 u472 u473 u474 u475 u476 u477 u478 u479 u480 u481 u482 u483 u484 u485 ae7 wc u0 u4 u58 u60 u61 u62 u63 u64 u65 u66 u67 u68 u487 u488 u489 u490 u491 u492 u493 u494 u495 u496 u497 u498 u499 u500 u501 u502 u503 u504 u505 u506 u507 u508 u509 u510 u511 u512 u513 u514 u515 u516 u517 u518 u519 u520 u521 u522 u523 u524 u525 u526 u527 u528 u529 u530 u531 u532 u533 u534 u535 u536 u537 u538 u539 u540 u541 u542 u543 u544 u545 u546 u547 u548 u549 u550 u551 u552 u553 u554 u555 u556 u557 u558 u559 u560 u561 u562 u563 u564 u565 u566 kq HM E4 E5 p7 p8 HT_l A3 A5 A6 A7 A8 A9 A10 A11 b94 b95 HJ11 HJ43 A66 A67 A68 A69 A70 A71 A72 A73 A74 A75 A76 A77 A78 A79 A80 A81 bc4 bc5 g1 g2 bc8 bc9 n2 n3 g3 g4 bd4 bd5 p4 p5 e1 e2 k8 k9 bd6 bd7 j5 j6 d5 d6 j7 j8 l2 l3 bd8 bd9 n4 n5 g5 g6 n6 n7 l4 l5 j9 k0 be0 be1 l6 l7 e3 e4 l8 l9 k4 k6 j3 j4 m0 m1 be2 be3 n8 n9 g7 g8 o0 o1 m2 m3 k1 k2 o2 o3 m4 m5 HJ81 HJ233 HA HJ255 a2 a3 a4 a5 a6 a8 a9 b0 HB)
 )
 )
end Go.Proofs.YtcfknhmdhglmfaaGreatDoor.PFnLaddersWhole
