-- Written by split3.py: the law's walk behind cut 3.
import Derived.Test.YtlmiaadpnbehgaaDoorVM
import Derived.Test.YtlmiaadpnbehgaaDoorVF
import Derived.Test.YtlmiaadpnbehgaaDoorVS
import Derived.Test.YtlmiaadpnbehgaaDoorPFnBeamsEndOfAllx0
import Derived.Test.YtlmiaadpnbehgaaDoorPFnBeamsEndOfAllx1
import Derived.Test.YtlmiaadpnbehgaaDoorPFnBeamsEndOfAllx2
import Derived.Test.YtlmiaadpnbehgaaDoorPFnBeamsEndOfAllx3
import Derived.Test.YtlmiaadpnbehgaaDoorPFnBeamsEndOfAllx6
import Derived.Test.YtlmiaadpnbehgaaDoorPFnBeamsEndOfAllx10
import Derived.Test.YtlmiaadpnbehgaaDoorPFnBeamsEndOfAllx11
import Derived.Test.YtlmiaadpnbehgaaDoorPFnBeamsEndOfAllx12
import Derived.Test.YtlmiaadpnbehgaaDoorPFnBeamsEndOfAllx13
import Derived.Test.YtlmiaadpnbehgaaDoorPFnBeamsEndOfAllx14
import Derived.Test.YtlmiaadpnbehgaaDoorPFnBeamsEndOfAllx15
import Derived.Test.YtlmiaadpnbehgaaDoorPFnBeamsEndOfAllx17
import Derived.Test.YtlmiaadpnbehgaaDoorPFnBeamsEndOfAllx18
import Derived.Test.YtlmiaadpnbehgaaDoorPFnBeamsEndOfAllx19
namespace Go.Proofs.YtlmiaadpnbehgaaDoor.PFnBeamsEndOfAll
open Go.Proofs.YtlmiaadpnbehgaaDoorV Go.RowKit Go.Proofs.YtlmiaadpnbehgaaDoorW.PrintWords Go.Proofs.YtlmiaadpnbehgaaDoorW.PrintLast Go.Proofs.YtlmiaadpnbehgaaDoorW.PrintMore
attribute [local go_sem] max2_int min2_int max_two min_two max_three min_three max_four min_four   -- for this text's walks alone
attribute [local go_sem ↓] rdl_zero rdl_succ eval_lit
set_option linter.unusedVariables false
set_option linter.unusedSimpArgs false
attribute [local go_sem high] eqA23 eqA25
set_option maxHeartbeats 100000000 in
set_option maxRecDepth 100000 in
theorem laws_FnBeamsEndOfAll.rest3 : laws_FnBeamsEndOfAll.RestSaid3 := by
 intro k a0_0 a0_1 a1_0 a1_1 a1_2 a1_3 a2_0 a2_1 a3 a4 r w b5 j1 S5 S6 h3 g5 A0 S9 T0 T1 c3 A1 T4 T5 d4 A2 T8 T9 c4 g8 b9 u129 u130 u131 u132 u133 u134 u135 u136 u137 u138 u139 u140 u141 u142 u143 u144 u145 u146 u147 u148 u149 u150 u151 u152 u153 u154 u155 u156 u157 u158 u159 u160 u161 u162 u163 u164 u165 u166 u167 u168 u169 u170 u171 u172 u173 u174 u175 u176 u177 u178 u179 u180 u181 u182 u183 u184 u185 b0 u29 u30 u31 u32 u33 u34 u187 u188 u189 u190 u191 u192 u193 u194 u195 u196 u197 u198 u199 u200 u201 u202 u203 u204 u205 u206 u207 u208 u209 u210 u211 u212 u213 u214 u215 u216 u217 u218 u219 u220 u221 u222 u223 u224 u225 u226 u227 u228 u229 u230 u231 u232 u233 u234 u235 u236 u237 u238 u239 u240 u241 u242 u243 u244 u245 u246 u247 u248 u249 u250 u251 u252 u253 u254 u255 u256 u257 u258 u259 u260 u261 u262 u263 u264 u265 u266 u267 u268 u269 u270 u271 u272 u273 u274 u275 u276 u277 u278 u279 u280 u281 u282 u283 u284 u285 b8 l5 l6 j2 U7 U8 U9 p4 p5 A6 V0 V1 V2 l7 A7 V3 V4 a8 l8 p6 V5 d1 d2 j3 e7 e8 V6 p8 V7 b7 b2 u340 u341 u342 u343 u344 u345 u346 u347 u348 u349 u350 u351 u352 u353 u354 u355 u356 u357 u358 u359 u360 u361 u362 u363 u364 u365 u366 u367 u368 u369 u370 u371 u372 u373 u374 u375 u376 u377 u378 u379 u380 u381 u382 u383 u384 u385 u386 u387 u388 u389 u390 u391 u392 u393 u394 u395 u396 u397 u398 u399 u400 u401 u402 u403 u404 u405 u406 u407 u408 u409 u410 u411 u412 u413 u414 u415 u416 u417 u418 u419 u420 Z1 wc u10 u59 u60 u61 u62 u63 u64 u65 u66 u67 u68 u422 u423 u424 u425 u426 u427 u428 u429 u430 u431 u432 u433 u434 u435 u436 u437 u438 u439 u440 u441 u442 u443 u444 u445 u446 u447 u448 u449 u450 u451 u452 u453 u454 u455 u456 u457 u458 u459 u460 u461 u462 u463 u464 u465 u466 u467 u468 u469 u470 u471 u472 u473 u474 u475 u476 u477 u478 u479 u480 u481 u482 u483 u484 u485 u486 u487 u488 u489 u490 u491 u492 u493 u494 u495 u496 u497 u498 u499 u500 u501 u502 u503 u504 u505 u506 u507 u508 u509 u510 u511 u512 u513 u514 u515 kq HM HT_l A10 A11 A12 A13 A14 A15 A16 A17 X5 X6 X7 X8 c9 d0 X9 Y0 c1 c2 d7 d8 HJ17 HJ60 a89 a90 a91 a92 a93 a94 a95 a96 a97 a98 bm0 bm1 k1 k2 k3 k4 h5 h6 bm2 bm3 x0 x1 x2 x5 k6 k7 k8 k9 HJ194 HA HJ251 a9 a0 a1 a2 a5 a7 HB
 conv => enter [2]; whnf
 have bm9 := Tryd.underlying23
 have bn0 := Tryd.underlying25
 cases kq with
 | zero => exact absurd HA.out (by simp [laws_FnBeamsEndOfAll.j4])
 | succ uz1 => (
 as_aux_lemma => (
 have H := HA.out
 clear HA
 simp only [laws_FnBeamsEndOfAll.j4] at H
 have uz2 := Aside0.mk H
 clear H
 repeat (go_not_at_if 516; first | (with_reducible refine rgl ?_) | go_skip | go_guarded | go_step | go_upon)
 go_cut [516] from 516 to 516 (fun bp6 wc => ∃ (kq : Nat), Aside0 (laws_FnBeamsEndOfAll.j6 kq a4 j3 d1 d2 = some r) ∧ Aside0 (kq ≤ uz1) ∧ Aside0 (wc.heap[c4]? = some (.cells #[.int .i64 a0_0, .int .i64 a0_1] 23 (0, 0))) ∧ Aside0 (wc.heap[g8]? = some (.cells #[.int .i64 a1_0, .int .i64 a1_1, .bool a1_2, .bool a1_3] 25 (0, 0))) ∧ Aside0 (wc.heap[b9]? = some (.cells #[.int .i64 a2_0, .int .i64 a2_1] 23 (0, 0))) ∧ Aside0 (wc.heap[b7]? = some (.cells #[.int .i64 d1, .int .i64 d2] 23 (0, 0))) ∧ Aside0 (wc.heap[b2]? = some (.cells #[.int .i64 e7, .int .i64 e8] 23 (0, 0))) ∧ Aside0 (Below w.heap.size w wc))
 case first => (
 as_aux_lemma => (
 have H := uz2.out
 clear uz2
 by_cases m0 : l8 = true
 ·(
 subst m0
 rw [if_pos rfl] at H
 have H' := Aside0.mk H
 clear H
 obtain ⟨G0, G1, Z3⟩ := Kd.R_slice a9.out
 subst Z3
 repeat (go_not_at_region 32; go_not_at_region 47; first | (with_reducible refine rgl ?_) | go_skip | go_guarded | go_step | go_upon)
 go_loopg [519] uz1 (fun kq aj0 w' => ∃ (a6 : Int), aj0 = .int .i64 a6 ∧ Aside0 (laws_FnBeamsEndOfAll.l0 kq a3 a4 a8 j3 a8 (a8.length : Int) a6 d1 d2 = some r) ∧ Aside0 (kq ≤ uz1) ∧ Aside0 (Kd.R k23 23 w' w.heap.size (fun k_ => k_ ≠ c4 ∧ k_ ≠ b9 ∧ k_ ≠ b7 ∧ k_ ≠ b2) (.slice G0 a8.length G1) a8) ∧ Aside0 (Kd.R k23 23 w' w.heap.size (fun k_ => k_ ≠ c4 ∧ k_ ≠ b9 ∧ k_ ≠ b7 ∧ k_ ≠ b2) (.slice G0 a8.length G1) a8) ∧ Aside0 (w'.heap[c4]? = some (.cells #[.int .i64 a0_0, .int .i64 a0_1] 23 (0, 0))) ∧ Aside0 (w'.heap[g8]? = some (.cells #[.int .i64 a1_0, .int .i64 a1_1, .bool a1_2, .bool a1_3] 25 (0, 0))) ∧ Aside0 (w'.heap[b9]? = some (.cells #[.int .i64 a2_0, .int .i64 a2_1] 23 (0, 0))) ∧ Aside0 (w'.heap[b7]? = some (.cells #[.int .i64 d1, .int .i64 d2] 23 (0, 0))) ∧ Aside0 (w'.heap[b2]? = some (.cells #[.int .i64 e7, .int .i64 e8] 23 (0, 0))) ∧ Aside0 (Below w.heap.size w w'))
 case atStart => exact ⟨(0), sR, H', ⟨Nat.le_refl _⟩, ⟨oR a9⟩, ⟨oR a9⟩, (bA a0), (bA a1), (bA a2), (bA a5), (bA a7), ⟨bB⟩⟩
 case round => (
 clear H'
 try clear m0
 obtain ⟨a6, rfl, HA, HK5, a9, b4, a0, a1, a2, a5, a7, HB⟩ := hrel
 cases gk with
 | zero => exact absurd HA.out (by simp [laws_FnBeamsEndOfAll.l0])
 | succ k5 => (
 have H := HA.out
 clear HA
 simp only [laws_FnBeamsEndOfAll.l0] at H
 by_cases j9 : a6 < (a8.length : Int)
 ·(
 rw [if_pos j9] at H
 have h7 : decide (a6 < (a8.length : Int)) = true := decide_eq_true j9
 clear j9
 (first | rw [h7] | (simp only [i64_w, i32_w]; rw [h7]) | skip)
 by_cases uz3 : 0 ≤ a6
 ·(
 rw [if_pos uz3] at H
 have ba9 : decide (0 ≤ a6) = true := decide_eq_true uz3
 clear uz3
 by_cases uz4 : a6 < (a8.length : Int)
 ·(
 rw [if_pos uz4] at H
 have bb0 : decide (a6 < (a8.length : Int)) = true := decide_eq_true uz4
 clear uz4
 replace H := Option.bind_eq_some_iff.mp H; obtain ⟨⟨uz5, uz6, aj1⟩, G2, H⟩ := H; (try dsimp only at H); have B1 := Aside0.mk G2; clear G2
 by_cases uz7 : aj1 = true
 ·(
 subst uz7
 rw [if_pos rfl] at H
 by_cases uz9 : (wrap64 (uz5 + uz6)) = a3
 ·(
 rw [if_pos uz9] at H
 obtain ⟨bb1, bb2⟩ := yE uz9
 clear uz9
 by_cases v0 : (wrap64 (uz5 + 1)) = ((rd_T23 a8 a6).f1)
 ·(
 rw [if_pos v0] at H
 obtain ⟨bb3, bb4⟩ := yE v0
 clear v0
 by_cases v1 : (wrap64 (uz6 + 1)) = ((rd_T23 a8 a6).f0)
 ·(
 rw [if_pos v1] at H
 obtain ⟨bb5, bb6⟩ := yE v1
 clear v1
 by_cases v2 : ((rd_T23 a8 a6).f0) > ((rd_T23 a8 a6).f1)
 ·(
 rw [if_pos v2] at H
 exact fy HT_l H
 )
 rw [if_neg v2] at H
 have bb7 : decide (((rd_T23 a8 a6).f1) < ((rd_T23 a8 a6).f0)) = false := decide_eq_false v2
 clear v2
 by_cases k0 : a6 > 0
 ·(
 rw [if_pos k0] at H
 have X4 : decide (0 < a6) = true := decide_eq_true k0
 clear k0
 obtain ⟨c7, j6⟩ : ∃ j_ : Int, (wrap64 (a6 - 1)) = j_ := ⟨_, rfl⟩
 (first | rw [j6] at H | simp only [j6] at H)
 (try rw [j6] at B1)
 have ap0 : (IntKind.i64.wrap (a6 - 1)) = c7 := (i64_w _).trans j6
 by_cases v3 : 0 ≤ (c7)
 ·(
 rw [if_pos v3] at H
 have bb8 : decide (0 ≤ (c7)) = true := decide_eq_true v3
 clear v3
 by_cases v4 : (c7) < (a8.length : Int)
 ·(
 rw [if_pos v4] at H
 have bb9 : decide ((c7) < (a8.length : Int)) = true := decide_eq_true v4
 clear v4
 by_cases v5 : ((rd_T23 a8 (c7)).f0) ≥ ((rd_T23 a8 a6).f0)
 ·(
 rw [if_pos v5] at H
 exact fy HT_l H
 )
 rw [if_neg v5] at H
 have bc0 : decide (((rd_T23 a8 a6).f0) ≤ ((rd_T23 a8 (c7)).f0)) = false := decide_eq_false v5
 clear v5
 have H' := Aside0.mk H
 clear H
 have j4 : 0 ≤ (a6 : Int) := of_decide_eq_true asm
 have j5 : a6 < (a8.length : Int) := of_decide_eq_true (by first | exact bb0 | exact h7 | exact asm)
 obtain ⟨j7, B2, S0, S1⟩ := at_T23 (Kd.R_reads' b4.out).2.2 a6 j4 j5
 cases B2
 replace j4 := eq_true j4
 replace j5 := eq_true j5
 try go_wp2_with (first | ((with_reducible refine gate_dst (N := 70) rfl ?_); (try (refine gate_guard (by rfl) ?_; dsimp only)); refine box_ (cs := #[.int .i64 0, .int .i64 0]) (t := 23) fun b6 hg bp7 hbox hb => ?_; have c8 := Aside0.mk (hbox); have Z4 := bS HB hg; have Z5 := bS HB hg; have h8 := bL a0 hg; have h9 := bM a0 hg; have i0 := bL a1 hg; have i1 := bM a1 hg; have i2 := bL a2 hg; have i3 := bM a2 hg; have i4 := bL a5 hg; have i5 := bM a5 hg; have i6 := bL a7 hg; have i7 := bM a7 hg; replace a9 := Aside0.mk (Kd.R_below (Kd.R_elderB (oR a9) b6 (Nat.le_of_eq hg.symm)) hb); replace b4 := Aside0.mk (Kd.R_below (Kd.R_elderB (oR b4) b6 (Nat.le_of_eq hg.symm)) hb); replace a0 := bQ a0 hb; replace a1 := bQ a1 hb; replace a2 := bQ a2 hb; replace a5 := bQ a5 hb; replace a7 := bQ a7 hb; replace HB := Aside0.mk (below_step bB hb); clear hb hbox hg; have bc1 := h9.out; have bc2 := h8.out; have bc3 := i1.out; have bc4 := i0.out; have bc5 := i3.out; have bc6 := i2.out; have bc7 := i5.out; have bc8 := i4.out; have bc9 := i7.out; have bd0 := i6.out; obtain ⟨aj2, aj3, aj4, aj5⟩ := cf2 c8) | ((with_reducible refine gate_callee (f := 14) rfl ?_); refine goesL_ (some 526) rfl rfl Tryd.func14 kr rfl #[.agg #[.int .i64 ((rd_T23 a8 a6).f0), .int .i64 ((rd_T23 a8 a6).f1)]] rfl sM ?_; (with_reducible refine (impl_MainBounces.calls k5 ((rd_T23 a8 a6).f0) ((rd_T23 a8 a6).f1) uz5 uz6 true _ B1.out).mono ?_); rintro e aj6 ⟨rfl, hb⟩; refine ⟨_, rfl, ?_⟩; replace a9 := Aside0.mk (Kd.R_below (by (with_reducible repeat (first | apply Kd.R_alloc | apply Kd.R_drewN | apply Kd.R_drew)); exact (Kd.R_mono (Kd.R_far (p := ⟨b6, 1, none⟩) (Kd.R_far (p := ⟨b6, 0, none⟩) (Kd.R_mono a9.out (fun k_ hk => (⟨hk, hk.2⟩ : _ ∧ k_ ≠ b6))) (fun _ hk => hk.2) (.int .i64 ((rd_T23 a8 a6).f0))) (fun _ hk => hk.2) (.int .i64 ((rd_T23 a8 a6).f1))) (fun _ h_ => h_.1))) hb); replace b4 := Aside0.mk (Kd.R_below (by (with_reducible repeat (first | apply Kd.R_alloc | apply Kd.R_drewN | apply Kd.R_drew)); exact (Kd.R_mono (Kd.R_far (p := ⟨b6, 1, none⟩) (Kd.R_far (p := ⟨b6, 0, none⟩) (Kd.R_mono b4.out (fun k_ hk => (⟨hk, hk.2⟩ : _ ∧ k_ ≠ b6))) (fun _ hk => hk.2) (.int .i64 ((rd_T23 a8 a6).f0))) (fun _ hk => hk.2) (.int .i64 ((rd_T23 a8 a6).f1))) (fun _ h_ => h_.1))) hb); replace a0 := bQ a0 hb; replace a1 := bQ a1 hb; replace a2 := bQ a2 hb; replace a5 := bQ a5 hb; replace a7 := bQ a7 hb; replace c8 := (bP (.cells #[.int .i64 ((rd_T23 a8 a6).f0), .int .i64 ((rd_T23 a8 a6).f1)] 23 (0, 0)) c8 hb); replace HB := Aside0.mk (below_step bB hb); (try clear hb); (try clear hk)))
 replace a9 := Aside0.mk (Kd.R_drew a9.out)
 replace b4 := Aside0.mk (Kd.R_drew b4.out)
 replace a0 := bD1 a0
 replace a1 := bD1 a1
 replace a2 := bD1 a2
 replace a5 := bD1 a5
 replace a7 := bD1 a7
 replace c8 := bD1 c8
 replace HB := Aside0.mk (below_drew1 HB.out)
 have B3 : 0 ≤ ((c7) : Int) := of_decide_eq_true asm
 have B4 : (c7) < (a8.length : Int) := of_decide_eq_true (by first | exact bb9 | exact asm)
 obtain ⟨Z6, aj7, m2, m3⟩ := at_T23 (Kd.R_reads' a9.out).2.2 (c7) B3 B4
 obtain rfl : j7 = Z6 := (by injection aj7)
 replace B3 := eq_true B3
 replace B4 := eq_true B4
 refine st_ 45 laws_FnBeamsEndOfAll.pl1 (S := fun w' => w'.cell? ⟨b6, 0, none⟩ = some (.int .i64 ((rd_T23 a8 a6).f0)) ∧ w'.cell? ⟨b6, 1, none⟩ = some (.int .i64 ((rd_T23 a8 a6).f1)) ∧ w'.cell? (j7.add (((c7)).toNat * 2)) = some (.int .i64 ((rd_T23 a8 (c7)).f0)) ∧ w'.cell? ⟨(j7.add (((c7)).toNat * 2)).block, (j7.add (((c7)).toNat * 2)).off + 1, none⟩ = some (.int .i64 ((rd_T23 a8 (c7)).f1))) (ds := []) laws_FnBeamsEndOfAll.tab47 laws_FnBeamsEndOfAll.bits47 ⟨cb c8 0, cb c8 1, m2, m3⟩ (fun hHeld HT_ HW_ => ?_)
 generalize aj6.drew = bp8 at a9 b4 a0 a1 a2 a5 a7 c8 HB m2 m3 hHeld ⊢
 (try clear aj2); (try clear aj3); (try clear aj4); (try clear aj5); (try clear bc1); (try clear bc2); (try clear bc3); (try clear bc4); (try clear bc5); (try clear bc6); (try clear bc7); (try clear bc8); (try clear bc9); (try clear bd0)
 iterate 45 (first | refine rA HT_ ?_ | refine rT HT_ HW_ hHeld ?_)
 refine pD HT_ ?_
 repeat (go_not_at_region 32; go_not_at_region 47; first | (with_reducible refine rgl ?_) | go_skip | go_guarded | go_step | go_upon)
 (try rw [dSet])
 go_roundg k5
 case measure => exact laws_FnBeamsEndOfAll.jx
 case rel => exact ⟨(wrap64 (a6 + 1)), sR, H', ⟨laws_FnBeamsEndOfAll.jx⟩, ⟨by (with_reducible repeat (first | apply Kd.R_alloc | apply Kd.R_drewN | apply Kd.R_drew)); exact Kd.R_mono a9.out (fun _ hk => ⟨hk.1.1, ⟨hk.1.2.1, ⟨hk.1.2.2.1, hk.1.2.2.2⟩⟩⟩)⟩, ⟨by (with_reducible repeat (first | apply Kd.R_alloc | apply Kd.R_drewN | apply Kd.R_drew)); exact Kd.R_mono b4.out (fun _ hk => ⟨hk.1.1, ⟨hk.1.2.1, ⟨hk.1.2.2.1, hk.1.2.2.2⟩⟩⟩)⟩, (bA a0), (bA a1), (bA a2), (bA a5), (bA a7), ⟨bB⟩⟩
 )
 rw [if_neg v4] at H
 exact absurd H (by simp)
 )
 rw [if_neg v3] at H
 exact absurd H (by simp)
 )
 rw [if_neg k0] at H
 have X4 : decide (0 < a6) = false := decide_eq_false k0
 clear k0
 have H' := Aside0.mk H
 clear H
 have j4 : 0 ≤ (a6 : Int) := of_decide_eq_true asm
 have j5 : a6 < (a8.length : Int) := of_decide_eq_true (by first | exact bb0 | exact h7 | exact asm)
 obtain ⟨j7, B2, S0, S1⟩ := at_T23 (Kd.R_reads' b4.out).2.2 a6 j4 j5
 cases B2
 replace j4 := eq_true j4
 replace j5 := eq_true j5
 try go_wp2_with (first | ((with_reducible refine gate_dst (N := 70) rfl ?_); (try (refine gate_guard (by rfl) ?_; dsimp only)); refine box_ (cs := #[.int .i64 0, .int .i64 0]) (t := 23) fun b6 hg bp9 hbox hb => ?_; have c8 := Aside0.mk (hbox); have Z4 := bS HB hg; have Z5 := bS HB hg; have h8 := bL a0 hg; have h9 := bM a0 hg; have i0 := bL a1 hg; have i1 := bM a1 hg; have i2 := bL a2 hg; have i3 := bM a2 hg; have i4 := bL a5 hg; have i5 := bM a5 hg; have i6 := bL a7 hg; have i7 := bM a7 hg; replace a9 := Aside0.mk (Kd.R_below (Kd.R_elderB (oR a9) b6 (Nat.le_of_eq hg.symm)) hb); replace b4 := Aside0.mk (Kd.R_below (Kd.R_elderB (oR b4) b6 (Nat.le_of_eq hg.symm)) hb); replace a0 := bQ a0 hb; replace a1 := bQ a1 hb; replace a2 := bQ a2 hb; replace a5 := bQ a5 hb; replace a7 := bQ a7 hb; replace HB := Aside0.mk (below_step bB hb); clear hb hbox hg; have bd1 := h9.out; have bd2 := h8.out; have bd3 := i1.out; have bd4 := i0.out; have bd5 := i3.out; have bd6 := i2.out; have bd7 := i5.out; have bd8 := i4.out; have bd9 := i7.out; have be0 := i6.out; obtain ⟨aj8, aj9, ak0, ak1⟩ := cf2 c8) | ((with_reducible refine gate_callee (f := 14) rfl ?_); refine goesL_ (some 526) rfl rfl Tryd.func14 kr rfl #[.agg #[.int .i64 ((rd_T23 a8 a6).f0), .int .i64 ((rd_T23 a8 a6).f1)]] rfl sM ?_; (with_reducible refine (impl_MainBounces.calls k5 ((rd_T23 a8 a6).f0) ((rd_T23 a8 a6).f1) uz5 uz6 true _ B1.out).mono ?_); rintro e ak2 ⟨rfl, hb⟩; refine ⟨_, rfl, ?_⟩; replace a9 := Aside0.mk (Kd.R_below (by (with_reducible repeat (first | apply Kd.R_alloc | apply Kd.R_drewN | apply Kd.R_drew)); exact (Kd.R_mono (Kd.R_far (p := ⟨b6, 1, none⟩) (Kd.R_far (p := ⟨b6, 0, none⟩) (Kd.R_mono a9.out (fun k_ hk => (⟨hk, hk.2⟩ : _ ∧ k_ ≠ b6))) (fun _ hk => hk.2) (.int .i64 ((rd_T23 a8 a6).f0))) (fun _ hk => hk.2) (.int .i64 ((rd_T23 a8 a6).f1))) (fun _ h_ => h_.1))) hb); replace b4 := Aside0.mk (Kd.R_below (by (with_reducible repeat (first | apply Kd.R_alloc | apply Kd.R_drewN | apply Kd.R_drew)); exact (Kd.R_mono (Kd.R_far (p := ⟨b6, 1, none⟩) (Kd.R_far (p := ⟨b6, 0, none⟩) (Kd.R_mono b4.out (fun k_ hk => (⟨hk, hk.2⟩ : _ ∧ k_ ≠ b6))) (fun _ hk => hk.2) (.int .i64 ((rd_T23 a8 a6).f0))) (fun _ hk => hk.2) (.int .i64 ((rd_T23 a8 a6).f1))) (fun _ h_ => h_.1))) hb); replace a0 := bQ a0 hb; replace a1 := bQ a1 hb; replace a2 := bQ a2 hb; replace a5 := bQ a5 hb; replace a7 := bQ a7 hb; replace c8 := (bP (.cells #[.int .i64 ((rd_T23 a8 a6).f0), .int .i64 ((rd_T23 a8 a6).f1)] 23 (0, 0)) c8 hb); replace HB := Aside0.mk (below_step bB hb); (try clear hb); (try clear hk)))
 replace a9 := Aside0.mk (Kd.R_drew a9.out)
 replace b4 := Aside0.mk (Kd.R_drew b4.out)
 replace a0 := bD1 a0
 replace a1 := bD1 a1
 replace a2 := bD1 a2
 replace a5 := bD1 a5
 replace a7 := bD1 a7
 replace c8 := bD1 c8
 replace HB := Aside0.mk (below_drew1 HB.out)
 refine st_ 45 laws_FnBeamsEndOfAll.pl2 (S := fun w' => w'.cell? ⟨b6, 0, none⟩ = some (.int .i64 ((rd_T23 a8 a6).f0)) ∧ w'.cell? ⟨b6, 1, none⟩ = some (.int .i64 ((rd_T23 a8 a6).f1))) (ds := []) laws_FnBeamsEndOfAll.tab47 laws_FnBeamsEndOfAll.bits47 cS (fun hHeld HT_ HW_ => ?_)
 generalize ak2.drew = bq0 at a9 b4 a0 a1 a2 a5 a7 c8 HB hHeld ⊢
 (try clear aj8); (try clear aj9); (try clear ak0); (try clear ak1); (try clear bd1); (try clear bd2); (try clear bd3); (try clear bd4); (try clear bd5); (try clear bd6); (try clear bd7); (try clear bd8); (try clear bd9); (try clear be0)
 iterate 45 (first | refine rA HT_ ?_ | refine rB HT_ ?_ | refine rT HT_ HW_ hHeld ?_)
 refine pD HT_ ?_
 repeat (go_not_at_region 32; go_not_at_region 47; first | (with_reducible refine rgl ?_) | go_skip | go_guarded | go_step | go_upon)
 (try rw [dSet])
 go_roundg k5
 case measure => exact laws_FnBeamsEndOfAll.jx
 case rel => exact ⟨(wrap64 (a6 + 1)), sR, H', ⟨laws_FnBeamsEndOfAll.jx⟩, ⟨by (with_reducible repeat (first | apply Kd.R_alloc | apply Kd.R_drewN | apply Kd.R_drew)); exact Kd.R_mono a9.out (fun _ hk => ⟨hk.1.1, ⟨hk.1.2.1, ⟨hk.1.2.2.1, hk.1.2.2.2⟩⟩⟩)⟩, ⟨by (with_reducible repeat (first | apply Kd.R_alloc | apply Kd.R_drewN | apply Kd.R_drew)); exact Kd.R_mono b4.out (fun _ hk => ⟨hk.1.1, ⟨hk.1.2.1, ⟨hk.1.2.2.1, hk.1.2.2.2⟩⟩⟩)⟩, (bA a0), (bA a1), (bA a2), (bA a5), (bA a7), ⟨bB⟩⟩
 )
 rw [if_neg v1] at H
 exact fy HT_l H
 )
 rw [if_neg v0] at H
 exact fy HT_l H
 )
 rw [if_neg uz9] at H
 exact fy HT_l H
 )
 replace uz7 := Bool.eq_false_iff.mpr uz7
 subst uz7
 rw [if_neg nft] at H
 exact fy HT_l H
 )
 rw [if_neg uz4] at H
 exact absurd H (by simp)
 )
 rw [if_neg uz3] at H
 exact absurd H (by simp)
 )
 rw [if_neg j9] at H
 have h7 : decide (a6 < (a8.length : Int)) = false := decide_eq_false j9
 clear j9
 (first | rw [h7] | (simp only [i64_w, i32_w]; rw [h7]) | skip)
 have H' := Aside0.mk H
 clear H
 repeat (go_not_at_region 32; go_not_at_region 47; first | (with_reducible refine rgl ?_) | go_skip | go_guarded | go_step | go_upon)
 go_meet
 case rel => exact ⟨_, H', ⟨laws_FnBeamsEndOfAll.jx⟩, (bA a0), (bA a1), (bA a2), (bA a5), (bA a7), ⟨bB⟩⟩
 )
 )
 )
 replace m0 := Bool.eq_false_iff.mpr m0
 subst m0
 rw [if_neg nft] at H
 have H' := Aside0.mk H
 clear H
 repeat (go_not_at_region 32; go_not_at_region 47; first | (with_reducible refine rgl ?_) | go_skip | go_guarded | go_step | go_upon)
 go_meet
 case rel => exact ⟨_, H', ⟨laws_FnBeamsEndOfAll.jx⟩, (bA a0), (bA a1), (bA a2), (bA a5), (bA a7), ⟨bB⟩⟩
 )
 )
 clear uz2
 obtain ⟨kq, HA, HJ300, a0, a1, a2, a5, a7, HB⟩ := hcut
 cases kq with
 | zero => exact absurd HA.out (by simp [laws_FnBeamsEndOfAll.j6])
 | succ bm8 => (
 as_aux_lemma => (
 have H := HA.out
 clear HA
 simp only [laws_FnBeamsEndOfAll.j6] at H
 by_cases v6 : j3 = true
 ·(
 subst v6
 rw [if_pos rfl] at H
 replace H := Option.bind_eq_some_iff.mp H; obtain ⟨⟨ak3, ak4⟩, G3, H⟩ := H; (try dsimp only at H); have ak5 := Aside0.mk G3; clear G3
 by_cases v7 : ak4 = true
 ·(
 subst v7
 rw [if_pos rfl] at H
 obtain rfl := Option.some.inj H
 have be1 := k2.out
 have be2 := k1.out
 have be3 := k4.out
 have be4 := k3.out
 have be5 := h6.out
 have be6 := h5.out
 have be7 := k8.out
 have be8 := k9.out
 obtain ⟨ak6, ak7, ak8, ak9⟩ := cf2 a5
 repeat (go_not_at_region 32; go_not_at_region 47; first | ((with_reducible refine gate_callee (f := 18) rfl ?_); refine goesL_ (some 579) rfl rfl Tryd.func18 kr rfl #[.agg #[.int .i64 d1, .int .i64 d2]] rfl sM ?_; (with_reducible refine (impl_TableText.calls d1 d2 ak3 true _ ak5.out (HM.out.below (by repeat (first | (with_reducible first | exact HB.out | apply below_alloc | apply pw_below_drewN | apply below_drew1 | refine below_set ?_ (Aside0.out (by assumption))) | exact HB.out)))).mono ?_); rintro e bq1 ⟨rfl, hb⟩; refine ⟨_, rfl, ?_⟩; replace a0 := bQ a0 hb; replace a1 := bQ a1 hb; replace a2 := bQ a2 hb; replace a5 := bQ a5 hb; replace a7 := bQ a7 hb; replace HB := Aside0.mk (below_step bB hb); (try clear hb)) | (with_reducible refine rgl ?_) | go_skip | go_guarded | go_step | go_upon)
 go_ret
 exact ⟨sE, bI⟩
 )
 replace v7 := Bool.eq_false_iff.mpr v7
 subst v7
 rw [if_neg nft] at H
 exact fy HT_l H
 )
 replace v6 := Bool.eq_false_iff.mpr v6
 subst v6
 rw [if_neg nft] at H
 obtain rfl := Option.some.inj H
 repeat (go_not_at_region 32; go_not_at_region 47; first | (with_reducible refine rgl ?_) | go_skip | go_guarded | go_step | go_upon)
 go_ret
 exact ⟨sE, bI⟩
 )
 )
 )
 )
end Go.Proofs.YtlmiaadpnbehgaaDoor.PFnBeamsEndOfAll
