-- Written by split3.py: the law's walk behind cut 3.
import Derived.Test.YtlmiaadpnbehgaaGreatDoorVM
import Derived.Test.YtlmiaadpnbehgaaGreatDoorVF
import Derived.Test.YtlmiaadpnbehgaaGreatDoorVS
import Derived.Test.YtlmiaadpnbehgaaGreatDoorPFnBeamsEndx0
import Derived.Test.YtlmiaadpnbehgaaGreatDoorPFnBeamsEndx1
import Derived.Test.YtlmiaadpnbehgaaGreatDoorPFnBeamsEndx2
import Derived.Test.YtlmiaadpnbehgaaGreatDoorPFnBeamsEndx3
import Derived.Test.YtlmiaadpnbehgaaGreatDoorPFnBeamsEndx6
import Derived.Test.YtlmiaadpnbehgaaGreatDoorPFnBeamsEndx9
import Derived.Test.YtlmiaadpnbehgaaGreatDoorPFnBeamsEndx13
import Derived.Test.YtlmiaadpnbehgaaGreatDoorPFnBeamsEndx14
import Derived.Test.YtlmiaadpnbehgaaGreatDoorPFnBeamsEndx15
import Derived.Test.YtlmiaadpnbehgaaGreatDoorPFnBeamsEndx16
import Derived.Test.YtlmiaadpnbehgaaGreatDoorPFnBeamsEndx17
import Derived.Test.YtlmiaadpnbehgaaGreatDoorPFnBeamsEndx20
import Derived.Test.YtlmiaadpnbehgaaGreatDoorPFnBeamsEndx21
import Derived.Test.YtlmiaadpnbehgaaGreatDoorPFnBeamsEndx22
namespace Go.Proofs.YtlmiaadpnbehgaaGreatDoor.PFnBeamsEnd
open Go.Proofs.YtlmiaadpnbehgaaGreatDoorV Go.RowKit Go.Proofs.YtlmiaadpnbehgaaGreatDoorW.PrintWords Go.Proofs.YtlmiaadpnbehgaaGreatDoorW.PrintLast Go.Proofs.YtlmiaadpnbehgaaGreatDoorW.PrintMore
attribute [local go_sem] max2_int min2_int max_two min_two max_three min_three max_four min_four   -- for this text's walks alone
attribute [local go_sem ↓] rdl_zero rdl_succ eval_lit
set_option linter.unusedVariables false
set_option linter.unusedSimpArgs false
attribute [local go_sem high] eqA25 eqA27
set_option maxHeartbeats 100000000 in
set_option maxRecDepth 100000 in
theorem laws_FnBeamsEnd.rest3 : laws_FnBeamsEnd.RestSaid3 := by
 intro k A0 c0 l0 A1 c1 l1 r w b5 b3 b6 b7 b8 b9 c6 j6 V3 V4 h5 g7 C0 V5 V6 V7 d1 C1 V9 X0 e0 C2 X3 X4 d3 h6 u133 u134 u135 u136 u137 u138 u139 u140 u141 u142 u143 u144 u145 u146 u147 u148 u149 u150 u151 u152 u153 u154 u155 u156 u157 u158 u159 u160 u161 u162 u163 u164 u165 u166 u167 u168 u169 u170 u171 u172 u173 u174 u175 u176 u177 u178 u179 u180 u181 u182 u183 u184 u185 u186 u187 u188 u189 b2 u25 u26 u27 u28 u29 u30 u191 u192 u193 u194 u195 u196 u197 u198 u199 u200 u201 u202 u203 u204 u205 u206 u207 u208 u209 u210 u211 u212 u213 u214 u215 u216 u217 u218 u219 u220 u221 u222 u223 u224 u225 u226 u227 u228 u229 u230 u231 u232 u233 u234 u235 u236 u237 u238 u239 u240 u241 u242 u243 u244 u245 u246 u247 u248 u249 u250 u251 u252 u253 u254 u255 u256 u257 u258 u259 u260 u261 u262 u263 u264 u265 u266 u267 u268 u269 u270 u271 u272 u273 u274 u275 u276 u277 u278 u279 u280 u281 u282 u283 u284 u285 u286 u287 u288 u289 c8 b0 b1 m6 m7 j7 Y2 Y3 Y4 p9 q0 C6 Y5 Y6 Y7 m8 C7 Y8 Y9 h7 a8 m9 q1 Z0 h8 d7 d8 j8 g3 g4 Z1 d6 q3 Z2 c9 c2 u350 u351 u352 u353 u354 u355 u356 u357 u358 u359 u360 u361 u362 u363 u364 u365 u366 u367 u368 u369 u370 u371 u372 u373 u374 u375 u376 u377 u378 u379 u380 u381 u382 u383 u384 u385 u386 u387 u388 u389 u390 u391 u392 u393 u394 u395 u396 u397 u398 u399 u400 u401 u402 u403 u404 u405 u406 u407 u408 u409 u410 u411 u412 u413 u414 u415 u416 u417 u418 u419 u420 u421 u422 u423 u424 u425 u426 u427 u428 u429 u430 a10 wc u4 u58 u59 u60 u61 u62 u63 u64 u65 u66 u67 u432 u433 u434 u435 u436 u437 u438 u439 u440 u441 u442 u443 u444 u445 u446 u447 u448 u449 u450 u451 u452 u453 u454 u455 u456 u457 u458 u459 u460 u461 u462 u463 u464 u465 u466 u467 u468 u469 u470 u471 u472 u473 u474 u475 u476 u477 u478 u479 u480 u481 u482 u483 u484 u485 u486 u487 u488 u489 u490 u491 u492 u493 u494 u495 u496 u497 u498 u499 u500 u501 u502 u503 u504 u505 u506 u507 u508 u509 u510 u511 u512 u513 u514 u515 u516 u517 u518 u519 u520 u521 u522 u523 u524 u525 kq HM V1 V2 x4 x5 HT_l A3 A5 A6 A7 A8 A9 A10 A11 A12 A13 bd7 bd8 bd9 be0 e3 e4 HJ13 HJ54 a99 aa0 aa1 aa2 aa3 aa4 aa5 aa6 aa7 aa8 aa9 ab0 ab1 bl1 bl2 k7 k8 k9 l2 bl3 bl4 l3 l4 l5 l6 i0 i1 bl5 bl6 y2 y3 y4 y5 l7 l8 l9 m0 HJ174 HA HJ235 a9 a2 a3 a4 a5 a7 HB
 conv => enter [2]; whnf
 have bm2 := Tryz.underlying25
 have bm3 := Tryz.underlying27
 cases kq with
 | zero => exact absurd HA.out (by simp [laws_FnBeamsEnd.j4])
 | succ uz6 => (
 as_aux_lemma => (
 have H := HA.out
 clear HA
 simp only [laws_FnBeamsEnd.j4] at H
 have uz7 := Aside0.mk H
 clear H
 repeat (go_not_at_if 526; first | (with_reducible refine rgl ?_) | go_skip | go_guarded | go_step | go_upon)
 go_cut [526] from 526 to 526 (fun bp3 wc => ∃ (kq : Nat), Aside0 (laws_FnBeamsEnd.j6 kq h8 j8 d7 d8 = some r) ∧ Aside0 (kq ≤ uz6) ∧ Aside0 (wc.heap[d3]? = some (.cells #[.int .i64 b5, .int .i64 b3] 25 (0, 0))) ∧ Aside0 (wc.heap[h6]? = some (.cells #[.int .i64 b6, .int .i64 b7, .bool b8, .bool b9] 27 (0, 0))) ∧ Aside0 (wc.heap[d6]? = some (.cells #[.int .i64 b0, .int .i64 b1] 25 (0, 0))) ∧ Aside0 (wc.heap[c9]? = some (.cells #[.int .i64 d7, .int .i64 d8] 25 (0, 0))) ∧ Aside0 (wc.heap[c2]? = some (.cells #[.int .i64 g3, .int .i64 g4] 25 (0, 0))) ∧ Aside0 (Below w.heap.size w wc))
 case first => (
 as_aux_lemma => (
 have H := uz7.out
 clear uz7
 by_cases n1 : m9 = true
 ·(
 subst n1
 rw [if_pos rfl] at H
 have H' := Aside0.mk H
 clear H
 obtain ⟨J9, K0, a12⟩ := Kd.R_slice a9.out
 subst a12
 repeat (go_not_at_region 36; go_not_at_region 51; first | (with_reducible refine rgl ?_) | go_skip | go_guarded | go_step | go_upon)
 go_loopg [529] uz6 (fun kq ak3 w' => ∃ (a6 : Int), ak3 = .int .i64 a6 ∧ Aside0 (laws_FnBeamsEnd.l0 kq h7 a8 h8 j8 a8 (a8.length : Int) a6 d7 d8 = some r) ∧ Aside0 (kq ≤ uz6) ∧ Aside0 (Kd.R k25 25 w' w.heap.size (fun k_ => k_ ≠ d3 ∧ k_ ≠ d6 ∧ k_ ≠ c9 ∧ k_ ≠ c2) (.slice J9 a8.length K0) a8) ∧ Aside0 (Kd.R k25 25 w' w.heap.size (fun k_ => k_ ≠ d3 ∧ k_ ≠ d6 ∧ k_ ≠ c9 ∧ k_ ≠ c2) (.slice J9 a8.length K0) a8) ∧ Aside0 (w'.heap[d3]? = some (.cells #[.int .i64 b5, .int .i64 b3] 25 (0, 0))) ∧ Aside0 (w'.heap[h6]? = some (.cells #[.int .i64 b6, .int .i64 b7, .bool b8, .bool b9] 27 (0, 0))) ∧ Aside0 (w'.heap[d6]? = some (.cells #[.int .i64 b0, .int .i64 b1] 25 (0, 0))) ∧ Aside0 (w'.heap[c9]? = some (.cells #[.int .i64 d7, .int .i64 d8] 25 (0, 0))) ∧ Aside0 (w'.heap[c2]? = some (.cells #[.int .i64 g3, .int .i64 g4] 25 (0, 0))) ∧ Aside0 (Below w.heap.size w w'))
 case atStart => exact ⟨(0), sR, H', ⟨Nat.le_refl _⟩, ⟨oR a9⟩, ⟨oR a9⟩, (bA a2), (bA a3), (bA a4), (bA a5), (bA a7), ⟨bB⟩⟩
 case round => (
 clear H'
 try clear n1
 obtain ⟨a6, rfl, HA, HK5, a9, c5, a2, a3, a4, a5, a7, HB⟩ := hrel
 cases gk with
 | zero => exact absurd HA.out (by simp [laws_FnBeamsEnd.l0])
 | succ k5 => (
 have H := HA.out
 clear HA
 simp only [laws_FnBeamsEnd.l0] at H
 by_cases k4 : a6 < (a8.length : Int)
 ·(
 rw [if_pos k4] at H
 have i2 : decide (a6 < (a8.length : Int)) = true := decide_eq_true k4
 clear k4
 (first | rw [i2] | (simp only [i64_w, i32_w]; rw [i2]) | skip)
 by_cases uz9 : 0 ≤ a6
 ·(
 rw [if_pos uz9] at H
 have b97 : decide (0 ≤ a6) = true := decide_eq_true uz9
 clear uz9
 by_cases v0 : a6 < (a8.length : Int)
 ·(
 rw [if_pos v0] at H
 have b98 : decide (a6 < (a8.length : Int)) = true := decide_eq_true v0
 clear v0
 replace H := Option.bind_eq_some_iff.mp H; obtain ⟨⟨v1, v2, ak4⟩, K1, H⟩ := H; (try dsimp only at H); have D1 := Aside0.mk K1; clear K1
 by_cases v3 : ak4 = true
 ·(
 subst v3
 rw [if_pos rfl] at H
 by_cases v4 : (wrap64 (v1 + v2)) = h7
 ·(
 rw [if_pos v4] at H
 obtain ⟨b99, ba0⟩ := yE v4
 clear v4
 by_cases v5 : (wrap64 (v1 + 1)) = ((rd_T25 a8 a6).f1)
 ·(
 rw [if_pos v5] at H
 obtain ⟨ba1, ba2⟩ := yE v5
 clear v5
 by_cases v6 : (wrap64 (v2 + 1)) = ((rd_T25 a8 a6).f0)
 ·(
 rw [if_pos v6] at H
 obtain ⟨ba3, ba4⟩ := yE v6
 clear v6
 by_cases v7 : ((rd_T25 a8 a6).f0) > ((rd_T25 a8 a6).f1)
 ·(
 rw [if_pos v7] at H
 exact fy HT_l H
 )
 rw [if_neg v7] at H
 have ba5 : decide (((rd_T25 a8 a6).f1) < ((rd_T25 a8 a6).f0)) = false := decide_eq_false v7
 clear v7
 by_cases k6 : a6 > 0
 ·(
 rw [if_pos k6] at H
 have Z9 : decide (0 < a6) = true := decide_eq_true k6
 clear k6
 obtain ⟨d4, k1⟩ : ∃ j_ : Int, (wrap64 (a6 - 1)) = j_ := ⟨_, rfl⟩
 (first | rw [k1] at H | simp only [k1] at H)
 (try rw [k1] at D1)
 have ar9 : (IntKind.i64.wrap (a6 - 1)) = d4 := (i64_w _).trans k1
 by_cases v8 : 0 ≤ (d4)
 ·(
 rw [if_pos v8] at H
 have ba6 : decide (0 ≤ (d4)) = true := decide_eq_true v8
 clear v8
 by_cases v9 : (d4) < (a8.length : Int)
 ·(
 rw [if_pos v9] at H
 have ba7 : decide ((d4) < (a8.length : Int)) = true := decide_eq_true v9
 clear v9
 by_cases x0 : ((rd_T25 a8 (d4)).f0) ≥ ((rd_T25 a8 a6).f0)
 ·(
 rw [if_pos x0] at H
 exact fy HT_l H
 )
 rw [if_neg x0] at H
 have ba8 : decide (((rd_T25 a8 a6).f0) ≤ ((rd_T25 a8 (d4)).f0)) = false := decide_eq_false x0
 clear x0
 have H' := Aside0.mk H
 clear H
 have j9 : 0 ≤ (a6 : Int) := of_decide_eq_true asm
 have k0 : a6 < (a8.length : Int) := of_decide_eq_true (by first | exact b98 | exact i2 | exact asm)
 obtain ⟨k2, D2, U9, V0⟩ := at_T25 (Kd.R_reads' c5.out).2.2 a6 j9 k0
 cases D2
 replace j9 := eq_true j9
 replace k0 := eq_true k0
 try go_wp2_with (first | ((with_reducible refine gate_dst (N := 69) rfl ?_); (try (refine gate_guard (by rfl) ?_; dsimp only)); refine box_ (cs := #[.int .i64 0, .int .i64 0]) (t := 25) fun c7 hg bp4 hbox hb => ?_; have d5 := Aside0.mk (hbox); have a13 := bS HB hg; have a14 := bS HB hg; have i3 := bL a2 hg; have i4 := bM a2 hg; have i5 := bL a3 hg; have i6 := bM a3 hg; have i7 := bL a4 hg; have i9 := bM a4 hg; have j0 := bL a5 hg; have j1 := bM a5 hg; have j2 := bL a7 hg; have j3 := bM a7 hg; replace a9 := Aside0.mk (Kd.R_below (Kd.R_elderB (oR a9) c7 (Nat.le_of_eq hg.symm)) hb); replace c5 := Aside0.mk (Kd.R_below (Kd.R_elderB (oR c5) c7 (Nat.le_of_eq hg.symm)) hb); replace a2 := bQ a2 hb; replace a3 := bQ a3 hb; replace a4 := bQ a4 hb; replace a5 := bQ a5 hb; replace a7 := bQ a7 hb; replace HB := Aside0.mk (below_step bB hb); clear hb hbox hg; have ba9 := i4.out; have bb0 := i3.out; have bb1 := i6.out; have bb2 := i5.out; have bb3 := i9.out; have bb4 := i7.out; have bb5 := j1.out; have bb6 := j0.out; have bb7 := j3.out; have bb8 := j2.out; obtain ⟨ak5, ak6, ak7, ak8⟩ := cf2 d5) | ((with_reducible refine gate_callee (f := 17) rfl ?_); refine goesL_ (some 536) rfl rfl Tryz.func17 kr rfl #[.agg #[.int .i64 ((rd_T25 a8 a6).f0), .int .i64 ((rd_T25 a8 a6).f1)]] rfl sM ?_; (with_reducible refine (impl_MainBounces.calls k5 ((rd_T25 a8 a6).f0) ((rd_T25 a8 a6).f1) v1 v2 true _ D1.out).mono ?_); rintro e ak9 ⟨rfl, hb⟩; refine ⟨_, rfl, ?_⟩; replace a9 := Aside0.mk (Kd.R_below (by (with_reducible repeat (first | apply Kd.R_alloc | apply Kd.R_drewN | apply Kd.R_drew)); exact (Kd.R_mono (Kd.R_far (p := ⟨c7, 1, none⟩) (Kd.R_far (p := ⟨c7, 0, none⟩) (Kd.R_mono a9.out (fun k_ hk => (⟨hk, hk.2⟩ : _ ∧ k_ ≠ c7))) (fun _ hk => hk.2) (.int .i64 ((rd_T25 a8 a6).f0))) (fun _ hk => hk.2) (.int .i64 ((rd_T25 a8 a6).f1))) (fun _ h_ => h_.1))) hb); replace c5 := Aside0.mk (Kd.R_below (by (with_reducible repeat (first | apply Kd.R_alloc | apply Kd.R_drewN | apply Kd.R_drew)); exact (Kd.R_mono (Kd.R_far (p := ⟨c7, 1, none⟩) (Kd.R_far (p := ⟨c7, 0, none⟩) (Kd.R_mono c5.out (fun k_ hk => (⟨hk, hk.2⟩ : _ ∧ k_ ≠ c7))) (fun _ hk => hk.2) (.int .i64 ((rd_T25 a8 a6).f0))) (fun _ hk => hk.2) (.int .i64 ((rd_T25 a8 a6).f1))) (fun _ h_ => h_.1))) hb); replace a2 := bQ a2 hb; replace a3 := bQ a3 hb; replace a4 := bQ a4 hb; replace a5 := bQ a5 hb; replace a7 := bQ a7 hb; replace d5 := (bP (.cells #[.int .i64 ((rd_T25 a8 a6).f0), .int .i64 ((rd_T25 a8 a6).f1)] 25 (0, 0)) d5 hb); replace HB := Aside0.mk (below_step bB hb); (try clear hb); (try clear hk)))
 replace a9 := Aside0.mk (Kd.R_drew a9.out)
 replace c5 := Aside0.mk (Kd.R_drew c5.out)
 replace a2 := bD1 a2
 replace a3 := bD1 a3
 replace a4 := bD1 a4
 replace a5 := bD1 a5
 replace a7 := bD1 a7
 replace d5 := bD1 d5
 replace HB := Aside0.mk (below_drew1 HB.out)
 have D3 : 0 ≤ ((d4) : Int) := of_decide_eq_true asm
 have D4 : (d4) < (a8.length : Int) := of_decide_eq_true (by first | exact ba7 | exact asm)
 obtain ⟨a15, al0, n3, n4⟩ := at_T25 (Kd.R_reads' a9.out).2.2 (d4) D3 D4
 obtain rfl : k2 = a15 := (by injection al0)
 replace D3 := eq_true D3
 replace D4 := eq_true D4
 refine st_ 45 laws_FnBeamsEnd.pl1 (S := fun w' => w'.cell? ⟨c7, 0, none⟩ = some (.int .i64 ((rd_T25 a8 a6).f0)) ∧ w'.cell? ⟨c7, 1, none⟩ = some (.int .i64 ((rd_T25 a8 a6).f1)) ∧ w'.cell? (k2.add (((d4)).toNat * 2)) = some (.int .i64 ((rd_T25 a8 (d4)).f0)) ∧ w'.cell? ⟨(k2.add (((d4)).toNat * 2)).block, (k2.add (((d4)).toNat * 2)).off + 1, none⟩ = some (.int .i64 ((rd_T25 a8 (d4)).f1))) (ds := []) laws_FnBeamsEnd.tab51 laws_FnBeamsEnd.bits51 ⟨cb d5 0, cb d5 1, n3, n4⟩ (fun hHeld HT_ HW_ => ?_)
 generalize ak9.drew = bp5 at a9 c5 a2 a3 a4 a5 a7 d5 HB n3 n4 hHeld ⊢
 (try clear ak5); (try clear ak6); (try clear ak7); (try clear ak8); (try clear ba9); (try clear bb0); (try clear bb1); (try clear bb2); (try clear bb3); (try clear bb4); (try clear bb5); (try clear bb6); (try clear bb7); (try clear bb8)
 iterate 45 (first | refine rA HT_ ?_ | refine rT HT_ HW_ hHeld ?_)
 refine pD HT_ ?_
 repeat (go_not_at_region 36; go_not_at_region 51; first | (with_reducible refine rgl ?_) | go_skip | go_guarded | go_step | go_upon)
 (try rw [dSet])
 go_roundg k5
 case measure => exact laws_FnBeamsEnd.jx
 case rel => exact ⟨(wrap64 (a6 + 1)), sR, H', ⟨laws_FnBeamsEnd.jx⟩, ⟨by (with_reducible repeat (first | apply Kd.R_alloc | apply Kd.R_drewN | apply Kd.R_drew)); exact Kd.R_mono a9.out (fun _ hk => ⟨hk.1.1, ⟨hk.1.2.1, ⟨hk.1.2.2.1, hk.1.2.2.2⟩⟩⟩)⟩, ⟨by (with_reducible repeat (first | apply Kd.R_alloc | apply Kd.R_drewN | apply Kd.R_drew)); exact Kd.R_mono c5.out (fun _ hk => ⟨hk.1.1, ⟨hk.1.2.1, ⟨hk.1.2.2.1, hk.1.2.2.2⟩⟩⟩)⟩, (bA a2), (bA a3), (bA a4), (bA a5), (bA a7), ⟨bB⟩⟩
 )
 rw [if_neg v9] at H
 exact absurd H (by simp)
 )
 rw [if_neg v8] at H
 exact absurd H (by simp)
 )
 rw [if_neg k6] at H
 have Z9 : decide (0 < a6) = false := decide_eq_false k6
 clear k6
 have H' := Aside0.mk H
 clear H
 have j9 : 0 ≤ (a6 : Int) := of_decide_eq_true asm
 have k0 : a6 < (a8.length : Int) := of_decide_eq_true (by first | exact b98 | exact i2 | exact asm)
 obtain ⟨k2, D2, U9, V0⟩ := at_T25 (Kd.R_reads' c5.out).2.2 a6 j9 k0
 cases D2
 replace j9 := eq_true j9
 replace k0 := eq_true k0
 try go_wp2_with (first | ((with_reducible refine gate_dst (N := 69) rfl ?_); (try (refine gate_guard (by rfl) ?_; dsimp only)); refine box_ (cs := #[.int .i64 0, .int .i64 0]) (t := 25) fun c7 hg bp6 hbox hb => ?_; have d5 := Aside0.mk (hbox); have a13 := bS HB hg; have a14 := bS HB hg; have i3 := bL a2 hg; have i4 := bM a2 hg; have i5 := bL a3 hg; have i6 := bM a3 hg; have i7 := bL a4 hg; have i9 := bM a4 hg; have j0 := bL a5 hg; have j1 := bM a5 hg; have j2 := bL a7 hg; have j3 := bM a7 hg; replace a9 := Aside0.mk (Kd.R_below (Kd.R_elderB (oR a9) c7 (Nat.le_of_eq hg.symm)) hb); replace c5 := Aside0.mk (Kd.R_below (Kd.R_elderB (oR c5) c7 (Nat.le_of_eq hg.symm)) hb); replace a2 := bQ a2 hb; replace a3 := bQ a3 hb; replace a4 := bQ a4 hb; replace a5 := bQ a5 hb; replace a7 := bQ a7 hb; replace HB := Aside0.mk (below_step bB hb); clear hb hbox hg; have bb9 := i4.out; have bc0 := i3.out; have bc1 := i6.out; have bc2 := i5.out; have bc3 := i9.out; have bc4 := i7.out; have bc5 := j1.out; have bc6 := j0.out; have bc7 := j3.out; have bc8 := j2.out; obtain ⟨al1, al2, al3, al4⟩ := cf2 d5) | ((with_reducible refine gate_callee (f := 17) rfl ?_); refine goesL_ (some 536) rfl rfl Tryz.func17 kr rfl #[.agg #[.int .i64 ((rd_T25 a8 a6).f0), .int .i64 ((rd_T25 a8 a6).f1)]] rfl sM ?_; (with_reducible refine (impl_MainBounces.calls k5 ((rd_T25 a8 a6).f0) ((rd_T25 a8 a6).f1) v1 v2 true _ D1.out).mono ?_); rintro e al5 ⟨rfl, hb⟩; refine ⟨_, rfl, ?_⟩; replace a9 := Aside0.mk (Kd.R_below (by (with_reducible repeat (first | apply Kd.R_alloc | apply Kd.R_drewN | apply Kd.R_drew)); exact (Kd.R_mono (Kd.R_far (p := ⟨c7, 1, none⟩) (Kd.R_far (p := ⟨c7, 0, none⟩) (Kd.R_mono a9.out (fun k_ hk => (⟨hk, hk.2⟩ : _ ∧ k_ ≠ c7))) (fun _ hk => hk.2) (.int .i64 ((rd_T25 a8 a6).f0))) (fun _ hk => hk.2) (.int .i64 ((rd_T25 a8 a6).f1))) (fun _ h_ => h_.1))) hb); replace c5 := Aside0.mk (Kd.R_below (by (with_reducible repeat (first | apply Kd.R_alloc | apply Kd.R_drewN | apply Kd.R_drew)); exact (Kd.R_mono (Kd.R_far (p := ⟨c7, 1, none⟩) (Kd.R_far (p := ⟨c7, 0, none⟩) (Kd.R_mono c5.out (fun k_ hk => (⟨hk, hk.2⟩ : _ ∧ k_ ≠ c7))) (fun _ hk => hk.2) (.int .i64 ((rd_T25 a8 a6).f0))) (fun _ hk => hk.2) (.int .i64 ((rd_T25 a8 a6).f1))) (fun _ h_ => h_.1))) hb); replace a2 := bQ a2 hb; replace a3 := bQ a3 hb; replace a4 := bQ a4 hb; replace a5 := bQ a5 hb; replace a7 := bQ a7 hb; replace d5 := (bP (.cells #[.int .i64 ((rd_T25 a8 a6).f0), .int .i64 ((rd_T25 a8 a6).f1)] 25 (0, 0)) d5 hb); replace HB := Aside0.mk (below_step bB hb); (try clear hb); (try clear hk)))
 replace a9 := Aside0.mk (Kd.R_drew a9.out)
 replace c5 := Aside0.mk (Kd.R_drew c5.out)
 replace a2 := bD1 a2
 replace a3 := bD1 a3
 replace a4 := bD1 a4
 replace a5 := bD1 a5
 replace a7 := bD1 a7
 replace d5 := bD1 d5
 replace HB := Aside0.mk (below_drew1 HB.out)
 refine st_ 45 laws_FnBeamsEnd.pl2 (S := fun w' => w'.cell? ⟨c7, 0, none⟩ = some (.int .i64 ((rd_T25 a8 a6).f0)) ∧ w'.cell? ⟨c7, 1, none⟩ = some (.int .i64 ((rd_T25 a8 a6).f1))) (ds := []) laws_FnBeamsEnd.tab51 laws_FnBeamsEnd.bits51 cS (fun hHeld HT_ HW_ => ?_)
 generalize al5.drew = bp7 at a9 c5 a2 a3 a4 a5 a7 d5 HB hHeld ⊢
 (try clear al1); (try clear al2); (try clear al3); (try clear al4); (try clear bb9); (try clear bc0); (try clear bc1); (try clear bc2); (try clear bc3); (try clear bc4); (try clear bc5); (try clear bc6); (try clear bc7); (try clear bc8)
 iterate 45 (first | refine rA HT_ ?_ | refine rB HT_ ?_ | refine rT HT_ HW_ hHeld ?_)
 refine pD HT_ ?_
 repeat (go_not_at_region 36; go_not_at_region 51; first | (with_reducible refine rgl ?_) | go_skip | go_guarded | go_step | go_upon)
 (try rw [dSet])
 go_roundg k5
 case measure => exact laws_FnBeamsEnd.jx
 case rel => exact ⟨(wrap64 (a6 + 1)), sR, H', ⟨laws_FnBeamsEnd.jx⟩, ⟨by (with_reducible repeat (first | apply Kd.R_alloc | apply Kd.R_drewN | apply Kd.R_drew)); exact Kd.R_mono a9.out (fun _ hk => ⟨hk.1.1, ⟨hk.1.2.1, ⟨hk.1.2.2.1, hk.1.2.2.2⟩⟩⟩)⟩, ⟨by (with_reducible repeat (first | apply Kd.R_alloc | apply Kd.R_drewN | apply Kd.R_drew)); exact Kd.R_mono c5.out (fun _ hk => ⟨hk.1.1, ⟨hk.1.2.1, ⟨hk.1.2.2.1, hk.1.2.2.2⟩⟩⟩)⟩, (bA a2), (bA a3), (bA a4), (bA a5), (bA a7), ⟨bB⟩⟩
 )
 rw [if_neg v6] at H
 exact fy HT_l H
 )
 rw [if_neg v5] at H
 exact fy HT_l H
 )
 rw [if_neg v4] at H
 exact fy HT_l H
 )
 replace v3 := Bool.eq_false_iff.mpr v3
 subst v3
 rw [if_neg nft] at H
 exact fy HT_l H
 )
 rw [if_neg v0] at H
 exact absurd H (by simp)
 )
 rw [if_neg uz9] at H
 exact absurd H (by simp)
 )
 rw [if_neg k4] at H
 have i2 : decide (a6 < (a8.length : Int)) = false := decide_eq_false k4
 clear k4
 (first | rw [i2] | (simp only [i64_w, i32_w]; rw [i2]) | skip)
 have H' := Aside0.mk H
 clear H
 repeat (go_not_at_region 36; go_not_at_region 51; first | (with_reducible refine rgl ?_) | go_skip | go_guarded | go_step | go_upon)
 go_meet
 case rel => exact ⟨_, H', ⟨laws_FnBeamsEnd.jx⟩, (bA a2), (bA a3), (bA a4), (bA a5), (bA a7), ⟨bB⟩⟩
 )
 )
 )
 replace n1 := Bool.eq_false_iff.mpr n1
 subst n1
 rw [if_neg nft] at H
 have H' := Aside0.mk H
 clear H
 repeat (go_not_at_region 36; go_not_at_region 51; first | (with_reducible refine rgl ?_) | go_skip | go_guarded | go_step | go_upon)
 go_meet
 case rel => exact ⟨_, H', ⟨laws_FnBeamsEnd.jx⟩, (bA a2), (bA a3), (bA a4), (bA a5), (bA a7), ⟨bB⟩⟩
 )
 )
 clear uz7
 obtain ⟨kq, HA, HJ284, a2, a3, a4, a5, a7, HB⟩ := hcut
 cases kq with
 | zero => exact absurd HA.out (by simp [laws_FnBeamsEnd.j6])
 | succ bm1 => (
 as_aux_lemma => (
 have H := HA.out
 clear HA
 simp only [laws_FnBeamsEnd.j6] at H
 by_cases x2 : j8 = true
 ·(
 subst x2
 rw [if_pos rfl] at H
 replace H := Option.bind_eq_some_iff.mp H; obtain ⟨⟨al6, al7⟩, K2, H⟩ := H; (try dsimp only at H); have al8 := Aside0.mk K2; clear K2
 by_cases x3 : al7 = true
 ·(
 subst x3
 rw [if_pos rfl] at H
 obtain rfl := Option.some.inj H
 have bc9 := l4.out
 have bd0 := l3.out
 have bd1 := l6.out
 have bd2 := l5.out
 have bd3 := i1.out
 have bd4 := i0.out
 have bd5 := l9.out
 have bd6 := m0.out
 obtain ⟨al9, am0, am1, am2⟩ := cf2 a5
 repeat (go_not_at_region 36; go_not_at_region 51; first | ((with_reducible refine gate_callee (f := 21) rfl ?_); refine goesL_ (some 589) rfl rfl Tryz.func21 kr rfl #[.agg #[.int .i64 d7, .int .i64 d8]] rfl sM ?_; (with_reducible refine (impl_TableText.calls d7 d8 al6 true _ al8.out (HM.out.below (by repeat (first | (with_reducible first | exact HB.out | apply below_alloc | apply pw_below_drewN | apply below_drew1 | refine below_set ?_ (Aside0.out (by assumption))) | exact HB.out)))).mono ?_); rintro e bp8 ⟨rfl, hb⟩; refine ⟨_, rfl, ?_⟩; replace a2 := bQ a2 hb; replace a3 := bQ a3 hb; replace a4 := bQ a4 hb; replace a5 := bQ a5 hb; replace a7 := bQ a7 hb; replace HB := Aside0.mk (below_step bB hb); (try clear hb)) | (with_reducible refine rgl ?_) | go_skip | go_guarded | go_step | go_upon)
 go_ret
 exact ⟨sE, bI⟩
 )
 replace x3 := Bool.eq_false_iff.mpr x3
 subst x3
 rw [if_neg nft] at H
 exact fy HT_l H
 )
 replace x2 := Bool.eq_false_iff.mpr x2
 subst x2
 rw [if_neg nft] at H
 obtain rfl := Option.some.inj H
 repeat (go_not_at_region 36; go_not_at_region 51; first | (with_reducible refine rgl ?_) | go_skip | go_guarded | go_step | go_upon)
 go_ret
 exact ⟨sE, bI⟩
 )
 )
 )
 )
end Go.Proofs.YtlmiaadpnbehgaaGreatDoor.PFnBeamsEnd
