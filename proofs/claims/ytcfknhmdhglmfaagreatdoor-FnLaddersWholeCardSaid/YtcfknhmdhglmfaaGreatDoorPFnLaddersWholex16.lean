-- Written by split3.py: the law's walk behind cut 2.
import Derived.Test.YtcfknhmdhglmfaaGreatDoorVM
import Derived.Test.YtcfknhmdhglmfaaGreatDoorVF
import Derived.Test.YtcfknhmdhglmfaaGreatDoorPFnLaddersWholex0
import Derived.Test.YtcfknhmdhglmfaaGreatDoorPFnLaddersWholex1
import Derived.Test.YtcfknhmdhglmfaaGreatDoorPFnLaddersWholex2
import Derived.Test.YtcfknhmdhglmfaaGreatDoorPFnLaddersWholex3
import Derived.Test.YtcfknhmdhglmfaaGreatDoorPFnLaddersWholex4
import Derived.Test.YtcfknhmdhglmfaaGreatDoorPFnLaddersWholex5
import Derived.Test.YtcfknhmdhglmfaaGreatDoorPFnLaddersWholex6
import Derived.Test.YtcfknhmdhglmfaaGreatDoorPFnLaddersWholex7
import Derived.Test.YtcfknhmdhglmfaaGreatDoorPFnLaddersWholex8
import Derived.Test.YtcfknhmdhglmfaaGreatDoorPFnLaddersWholex11
import Derived.Test.YtcfknhmdhglmfaaGreatDoorPFnLaddersWholex12
import Derived.Test.YtcfknhmdhglmfaaGreatDoorPFnLaddersWholex13
namespace Go.Proofs.YtcfknhmdhglmfaaGreatDoor.PFnLaddersWhole
open Go.Proofs.YtcfknhmdhglmfaaGreatDoorV Go.RowKit Go.Proofs.YtcfknhmdhglmfaaGreatDoorW.PrintWords Go.Proofs.YtcfknhmdhglmfaaGreatDoorW.PrintLast Go.Proofs.YtcfknhmdhglmfaaGreatDoorW.PrintMore
attribute [local go_sem] max2_int min2_int max_two min_two max_three min_three max_four min_four   -- for this text's walks alone
attribute [local go_sem ↓] rdl_zero rdl_succ eval_lit
set_option linter.unusedVariables false
set_option linter.unusedSimpArgs false
attribute [local go_sem high] eqA25
set_option maxHeartbeats 100000000 in
set_option maxRecDepth 100000 in
theorem laws_FnLaddersWhole.rest2 (hR_ : laws_FnLaddersWhole.RestSaid3) : laws_FnLaddersWhole.RestSaid2 := by
 intro k A0 c0 l0 A1 c1 l1 r w d2 d3 d4 v9 x0 uz0 a86 a87 a88 uz1 uz2 x2 a89 a90 a91 x3 M1 a92 a93 e0 u122 u123 u124 u125 u126 u127 u128 u129 u130 u131 u132 u133 u134 u135 u136 u137 u138 u139 u140 u141 u142 u143 u144 u145 u146 u147 u148 u149 u150 u151 u152 u153 u154 u155 u156 u157 u158 u159 u160 u161 u162 u163 u164 u165 u166 u167 u168 u169 u170 u171 u172 u173 u174 u175 u176 x5 u0 u4 u22 u23 u24 u179 u180 u181 u182 u183 u184 u185 u186 u187 u188 u189 u190 u191 u192 u193 u194 u195 u196 u197 u198 u199 u200 u201 u202 u203 u204 u205 u206 u207 u208 u209 u210 u211 u212 u213 u214 u215 u216 u217 u218 u219 u220 u221 u222 u223 u224 u225 u226 u227 u228 u229 u230 u231 u232 u233 u234 u235 u236 u237 u238 u239 u240 u241 u242 u243 u244 u245 u246 u247 u248 u249 u250 u251 u252 u253 u254 u255 u256 u257 u258 d1 o6 c2 y2 o7 a94 y3 M2 a95 a96 o4 b1 r8 o8 a97 e5 e6 e7 q1 q2 m6 m7 m8 a98 a99 d7 d8 d9 o9 i6 i7 i9 q5 m9 n0 n1 aa0 p2 j0 j1 j2 q3 e8 e9 g0 aa1 aa2 bk1 K1 bk2 c3 c5 c6 c7 c8 c9 b4 wc u334 u335 u336 u337 u338 u339 u340 u341 u342 u343 u344 u345 u346 u347 u348 u349 u350 u351 u352 u353 u354 u355 u356 u357 u358 u359 u360 u361 u362 u363 u364 u365 u366 u367 u368 u369 u370 u371 u372 u373 u374 u375 u376 u377 u378 u379 u380 u381 u382 u383 u384 u385 u386 u387 u388 u389 u390 u391 u392 u393 u394 u395 u396 u397 u398 u399 u400 u401 u402 u403 u404 u405 u406 u407 u408 u409 u410 u411 u412 kq v4 HM E4 E5 p7 p8 HT_l A3 A5 A6 A7 A8 A9 A10 A11 b94 b95 HJ11 HJ43 A66 A67 A68 A69 A70 A71 A72 A73 A74 A75 A76 A77 A78 A79 A80 A81 bc4 bc5 g1 g2 bc8 bc9 n2 n3 g3 g4 bd4 bd5 p4 p5 e1 e2 k8 k9 bd6 bd7 j5 j6 d5 d6 j7 j8 l2 l3 bd8 bd9 n4 n5 g5 g6 n6 n7 l4 l5 j9 k0 be0 be1 l6 l7 e3 e4 l8 l9 k4 k6 j3 j4 m0 m1 be2 be3 n8 n9 g7 g8 o0 o1 m2 m3 k1 k2 o2 o3 m4 m5 HA HJ81 p3 p6 a2 a3 a4 a5 a6 a8 a9 b0 HB K1_ aK1_
 conv at aK1_ => enter [a_, w_, 1, 2]; whnf
 conv => enter [2]; whnf
 have cf2 := Tryz.underlying25
 (try clear K2); (try clear K3); (try clear K4); (try clear K5); (try clear K6); (try clear K7); (try clear K8); (try clear K9); (try clear L0); (try clear L1); (try clear L2); (try clear L3); (try clear y4); (try clear y5); (try clear y6); (try clear y7); (try clear y8); (try clear y9); (try clear z2); (try clear z3); (try clear z4); (try clear z5); (try clear z6); (try clear z7); (try clear z8); (try clear z9); (try clear A2); (try clear A4); (try clear B0); (try clear B1); (try clear B2); (try clear B3); (try clear B4); (try clear B5); (try clear B6); (try clear B7); (try clear B8); (try clear B9); (try clear C0); (try clear C1); (try clear C2); (try clear C3); (try clear C4); (try clear C5); (try clear C6); (try clear C7); (try clear C8); (try clear C9); (try clear bc6); (try clear bc7); (try clear bd0); (try clear bd1); (try clear bd2); (try clear bd3); (try clear ai2); (try clear ai3); (try clear ai4); (try clear ai5); (try clear ai6); (try clear ai7); (try clear ai8); (try clear ai9); (try clear aj0); (try clear aj1); (try clear aj2); (try clear aj3); (try clear aj4); (try clear aj5); (try clear aj6); (try clear aj7); (try clear aj8); (try clear aj9); (try clear ak0); (try clear ak1); (try clear ak2); (try clear ak3); (try clear ak4); (try clear ak5); (try clear ak6); (try clear ak7); (try clear ak8); (try clear ak9); (try clear al0); (try clear al1); (try clear al2); (try clear al3); (try clear al4); (try clear al5); (try clear al6); (try clear al7); (try clear al8); (try clear al9); (try clear am0); (try clear am1); (try clear am2); (try clear am3); (try clear am4); (try clear am5); (try clear am6); (try clear am7); (try clear am8); (try clear am9); (try clear an0); (try clear an1)
 cases kq with
 | zero => exact absurd HA.out (by simp [laws_FnLaddersWhole.j2])
 | succ b75 => (
 as_aux_lemma => (
 have H := HA.out
 clear HA
 simp only [laws_FnLaddersWhole.j2] at H
 by_cases ac2 : v4 = true
 ·(
 subst ac2
 rw [if_pos rfl] at H
 exact fy HT_l H
 )
 replace ac2 := Bool.eq_false_iff.mpr ac2
 subst ac2
 rw [if_neg nft] at H
 have ac3 := Aside0.mk H
 clear H
 repeat (go_not_at_if 414; first | (with_reducible refine rgl ?_) | go_skip | go_guarded | go_step | go_upon)
 repeat (go_quiet (fail); go_upto_if 414 with (fail))
 go_cut [] from 0 to 0 (fun wc => ∃ (kq : Nat), Aside0 (laws_FnLaddersWhole.j5 kq o4 b1 r8 q1 q2 o9 q5 p2 q3 e5 e6 e7 d7 d8 d9 i6 i7 i9 j0 j1 j2 = some r) ∧ Aside0 (kq ≤ b75) ∧ Aside0 (Kd.R k25 25 wc w.heap.size (fun k_ => k_ ≠ e0 ∧ k_ ≠ c3 ∧ k_ ≠ c5 ∧ k_ ≠ c6 ∧ k_ ≠ c7 ∧ k_ ≠ c8 ∧ k_ ≠ c9 ∧ k_ ≠ b4) K1 b1) ∧ Aside0 (wc.heap[e0]? = some (.cells #[.int .i64 d2, .int .i64 d3, .int .i64 d4] 25 (0, 0))) ∧ Aside0 (wc.heap[c3]? = some (.cells #[.int .i64 e5, .int .i64 e6, .int .i64 e7] 25 (0, 0))) ∧ Aside0 (wc.heap[c5]? = some (.cells #[.int .i64 m6, .int .i64 m7, .int .i64 m8] 25 (0, 0))) ∧ Aside0 (wc.heap[c6]? = some (.cells #[.int .i64 d7, .int .i64 d8, .int .i64 d9] 25 (0, 0))) ∧ Aside0 (wc.heap[c7]? = some (.cells #[.int .i64 i6, .int .i64 i7, .int .i64 i9] 25 (0, 0))) ∧ Aside0 (wc.heap[c8]? = some (.cells #[.int .i64 m9, .int .i64 n0, .int .i64 n1] 25 (0, 0))) ∧ Aside0 (wc.heap[c9]? = some (.cells #[.int .i64 j0, .int .i64 j1, .int .i64 j2] 25 (0, 0))) ∧ Aside0 (wc.heap[b4]? = some (.cells #[.int .i64 e8, .int .i64 e9, .int .i64 g0] 25 (0, 0))) ∧ Aside0 (Below w.heap.size w wc))
 case first => (
 as_aux_lemma => (
 have H := ac3.out
 clear ac3
 by_cases U5 : y2 = true
 ·(
 subst U5
 rw [if_pos rfl] at H
 have ac4 := Aside0.mk H
 clear H
 repeat (go_not_at_region 35; first | (with_reducible refine rgl ?_) | go_skip | go_guarded | go_step | go_upon)
 repeat (go_quiet (fail); go_upto_region 35 with (fail))
 go_cut [422] from 422 to 422 (fun bt2 wc => ∃ (kq : Nat) (uz3 : Bool), bt2 = .bool uz3 ∧ Aside0 (laws_FnLaddersWhole.j3 kq o6 c2 o4 b1 r8 q1 q2 o9 q5 p2 q3 uz3 e5 e6 e7 d7 d8 d9 i6 i7 i9 j0 j1 j2 = some r) ∧ Aside0 (kq ≤ b75) ∧ Aside0 (Kd.S (Kd.slice 3 (Kd.int .i64)) 51 wc w.heap.size (fun _ => True) aa2 c2) ∧ Aside0 (Kd.R k25 25 wc w.heap.size (fun k_ => k_ ≠ e0 ∧ k_ ≠ c3 ∧ k_ ≠ c5 ∧ k_ ≠ c6 ∧ k_ ≠ c7 ∧ k_ ≠ c8 ∧ k_ ≠ c9 ∧ k_ ≠ b4) K1 b1) ∧ Aside0 (wc.heap[e0]? = some (.cells #[.int .i64 d2, .int .i64 d3, .int .i64 d4] 25 (0, 0))) ∧ Aside0 (wc.heap[c3]? = some (.cells #[.int .i64 e5, .int .i64 e6, .int .i64 e7] 25 (0, 0))) ∧ Aside0 (wc.heap[c5]? = some (.cells #[.int .i64 m6, .int .i64 m7, .int .i64 m8] 25 (0, 0))) ∧ Aside0 (wc.heap[c6]? = some (.cells #[.int .i64 d7, .int .i64 d8, .int .i64 d9] 25 (0, 0))) ∧ Aside0 (wc.heap[c7]? = some (.cells #[.int .i64 i6, .int .i64 i7, .int .i64 i9] 25 (0, 0))) ∧ Aside0 (wc.heap[c8]? = some (.cells #[.int .i64 m9, .int .i64 n0, .int .i64 n1] 25 (0, 0))) ∧ Aside0 (wc.heap[c9]? = some (.cells #[.int .i64 j0, .int .i64 j1, .int .i64 j2] 25 (0, 0))) ∧ Aside0 (wc.heap[b4]? = some (.cells #[.int .i64 e8, .int .i64 e9, .int .i64 g0] 25 (0, 0))) ∧ Aside0 (Below w.heap.size w wc))
 case first => (
 as_aux_lemma => (
 have H := ac4.out
 clear ac4
 by_cases ac5 : (c2.length : Int) = y3
 ·(
 rw [if_pos ac5] at H
 obtain ⟨ay1, c14⟩ := yE ac5
 clear ac5
 (first | rw [ay1] | (simp only [i64_w, i32_w]; rw [ay1]) | skip)
 have H' := Aside0.mk H
 clear H
 obtain ⟨ce5, ce6, bo4⟩ := Kd.S_slice p3.out
 subst bo4
 repeat (go_not_at_region 40; first | (with_reducible refine rgl ?_) | go_skip | go_guarded | go_step | go_upon)
 repeat (go_quiet (fail); try go_wp2)
 go_meet
 case rel => exact ⟨_, (decide (y3 < 1)), sR, H', ⟨laws_FnLaddersWhole.jx⟩, ⟨oS p3⟩, ⟨oR p6⟩, (bA a2), (bA a3), (bA a4), (bA a5), (bA a6), (bA a8), (bA a9), (bA b0), ⟨bB⟩⟩
 )
 rw [if_neg ac5] at H
 exact absurd H (by cases b75 <;> simp [laws_FnLaddersWhole.j3, HT_l.out])
 )
 )
 clear ac4
 try clear U5
 obtain ⟨kq, uz3, rfl, HA, HJ235, p3, p6, a2, a3, a4, a5, a6, a8, a9, b0, HB⟩ := hcut
 cases kq with
 | zero => exact absurd HA.out (by simp [laws_FnLaddersWhole.j3])
 | succ be6 => (
 as_aux_lemma => (
 have H := HA.out
 clear HA
 simp only [laws_FnLaddersWhole.j3] at H
 by_cases ac6 : uz3 = true
 ·(
 subst ac6
 rw [if_pos rfl] at H
 exact fy HT_l H
 )
 replace ac6 := Bool.eq_false_iff.mpr ac6
 subst ac6
 rw [if_neg nft] at H
 have H' := Aside0.mk H
 clear H
 obtain ⟨be7, be8, bo5⟩ := Kd.S_slice p3.out
 subst bo5
 repeat (go_not_at_region 40; first | (with_reducible refine rgl ?_) | go_skip | go_guarded | go_step | go_upon)
 repeat (go_quiet (fail); try go_wp2)
 go_loopg [425] be6 (fun kq bt3 w' => ∃ (b9 : Int), bt3 = .int .i64 b9 ∧ Aside0 (laws_FnLaddersWhole.l0 kq o6 c2 o4 b1 r8 q1 q2 o9 q5 p2 q3 c2 (c2.length : Int) b9 e5 e6 e7 d7 d8 d9 i6 i7 i9 j0 j1 j2 = some r) ∧ Aside0 (kq ≤ be6) ∧ Aside0 (Kd.S (Kd.slice 3 (Kd.int .i64)) 51 w' w.heap.size (fun _ => True) (.slice be7 c2.length be8) c2) ∧ Aside0 (Kd.R k25 25 w' w.heap.size (fun k_ => k_ ≠ e0 ∧ k_ ≠ c3 ∧ k_ ≠ c5 ∧ k_ ≠ c6 ∧ k_ ≠ c7 ∧ k_ ≠ c8 ∧ k_ ≠ c9 ∧ k_ ≠ b4) K1 b1) ∧ Aside0 (Kd.S (Kd.slice 3 (Kd.int .i64)) 51 w' w.heap.size (fun _ => True) (.slice be7 c2.length be8) c2) ∧ Aside0 (w'.heap[e0]? = some (.cells #[.int .i64 d2, .int .i64 d3, .int .i64 d4] 25 (0, 0))) ∧ Aside0 (w'.heap[c3]? = some (.cells #[.int .i64 e5, .int .i64 e6, .int .i64 e7] 25 (0, 0))) ∧ Aside0 (w'.heap[c5]? = some (.cells #[.int .i64 m6, .int .i64 m7, .int .i64 m8] 25 (0, 0))) ∧ Aside0 (w'.heap[c6]? = some (.cells #[.int .i64 d7, .int .i64 d8, .int .i64 d9] 25 (0, 0))) ∧ Aside0 (w'.heap[c7]? = some (.cells #[.int .i64 i6, .int .i64 i7, .int .i64 i9] 25 (0, 0))) ∧ Aside0 (w'.heap[c8]? = some (.cells #[.int .i64 m9, .int .i64 n0, .int .i64 n1] 25 (0, 0))) ∧ Aside0 (w'.heap[c9]? = some (.cells #[.int .i64 j0, .int .i64 j1, .int .i64 j2] 25 (0, 0))) ∧ Aside0 (w'.heap[b4]? = some (.cells #[.int .i64 e8, .int .i64 e9, .int .i64 g0] 25 (0, 0))) ∧ Aside0 (Below w.heap.size w w'))
 case atStart => exact ⟨(0), sR, H', ⟨Nat.le_refl _⟩, ⟨oS p3⟩, ⟨oR p6⟩, ⟨oS p3⟩, (bA a2), (bA a3), (bA a4), (bA a5), (bA a6), (bA a8), (bA a9), (bA b0), ⟨bB⟩⟩
 case round => (
 clear H'
 obtain ⟨b9, rfl, HA, HK5, p3, p6, q0, a2, a3, a4, a5, a6, a8, a9, b0, HB⟩ := hrel
 cases gk with
 | zero => exact absurd HA.out (by simp [laws_FnLaddersWhole.l0])
 | succ k5 => (
 have H := HA.out
 clear HA
 simp only [laws_FnLaddersWhole.l0] at H
 by_cases L6 : b9 < (c2.length : Int)
 ·(
 rw [if_pos L6] at H
 have bl4 : decide (b9 < (c2.length : Int)) = true := decide_eq_true L6
 clear L6
 by_cases ac7 : 0 ≤ b9
 ·(
 rw [if_pos ac7] at H
 have c15 : decide (0 ≤ b9) = true := decide_eq_true ac7
 clear ac7
 by_cases ac8 : b9 < (c2.length : Int)
 ·(
 rw [if_pos ac8] at H
 have c16 : decide (b9 < (c2.length : Int)) = true := decide_eq_true ac8
 clear ac8
 by_cases ac9 : ((rd_L3 c2 b9).length : Int) = 2
 ·(
 rw [if_pos ac9] at H
 obtain ⟨c17, c18⟩ := yE ac9
 clear ac9
 by_cases ad0 : 0 < ((rd_L3 c2 b9).length : Int)
 ·(
 rw [if_pos ad0] at H
 have c19 : decide (0 < ((rd_L3 c2 b9).length : Int)) = true := decide_eq_true ad0
 have c20 : decide (0 < (rd_L3 c2 b9).length) = true := decide_eq_true (nl0 ad0)
 clear ad0
 by_cases ad1 : 1 < ((rd_L3 c2 b9).length : Int)
 ·(
 rw [if_pos ad1] at H
 have c21 : decide (1 < ((rd_L3 c2 b9).length : Int)) = true := decide_eq_true ad1
 have c22 : decide (1 < (rd_L3 c2 b9).length) = true := decide_eq_true (nl1 ad1)
 clear ad1
 by_cases ad2 : (rd (rd_L3 c2 b9) 0) > (rd (rd_L3 c2 b9) 1)
 ·(
 rw [if_pos ad2] at H
 exact fy HT_l H
 )
 rw [if_neg ad2] at H
 have c23 : decide ((rd (rd_L3 c2 b9) 1) < (rd (rd_L3 c2 b9) 0)) = false := decide_eq_false ad2
 clear ad2
 by_cases ad3 : (rd (rd_L3 c2 b9) 0) ≤ o6
 ·(
 rw [if_pos ad3] at H
 exact fy HT_l H
 )
 rw [if_neg ad3] at H
 have c24 : decide ((rd (rd_L3 c2 b9) 0) ≤ o6) = false := decide_eq_false ad3
 clear ad3
 by_cases ad4 : (wrap64 ((rd (rd_L3 c2 b9) 0) * (rd (rd_L3 c2 b9) 1))) = (wrap64 (o6 * (wrap64 ((rd (rd_L3 c2 b9) 0) + (rd (rd_L3 c2 b9) 1)))))
 ·(
 rw [if_pos ad4] at H
 obtain ⟨c25, c26⟩ := yE ad4
 clear ad4
 by_cases L7 : b9 > 0
 ·(
 rw [if_pos L7] at H
 have bl5 : decide (0 < b9) = true := decide_eq_true L7
 clear L7
 obtain ⟨o5, U6⟩ : ∃ j_ : Int, (wrap64 (b9 - 1)) = j_ := ⟨_, rfl⟩
 (first | rw [U6] at H | simp only [U6] at H)
 have by3 : (IntKind.i64.wrap (b9 - 1)) = o5 := (i64_w _).trans U6
 by_cases ad5 : 0 ≤ (o5)
 ·(
 rw [if_pos ad5] at H
 have c35 : decide (0 ≤ (o5)) = true := decide_eq_true ad5
 clear ad5
 by_cases ad6 : (o5) < (c2.length : Int)
 ·(
 rw [if_pos ad6] at H
 have c39 : decide ((o5) < (c2.length : Int)) = true := decide_eq_true ad6
 clear ad6
 by_cases ad7 : 0 < ((rd_L3 c2 (o5)).length : Int)
 ·(
 rw [if_pos ad7] at H
 have c40 : decide (0 < ((rd_L3 c2 (o5)).length : Int)) = true := decide_eq_true ad7
 have c41 : decide (0 < (rd_L3 c2 (o5)).length) = true := decide_eq_true (nl0 ad7)
 clear ad7
 by_cases ad8 : (rd (rd_L3 c2 (o5)) 0) ≥ (rd (rd_L3 c2 b9) 0)
 ·(
 rw [if_pos ad8] at H
 exact fy HT_l H
 )
 rw [if_neg ad8] at H
 have c42 : decide ((rd (rd_L3 c2 b9) 0) ≤ (rd (rd_L3 c2 (o5)) 0)) = false := decide_eq_false ad8
 clear ad8
 have H' := Aside0.mk H
 clear H
 have uz4 : 0 ≤ (b9 : Int) := of_decide_eq_true asm
 have uz5 : b9 < (c2.length : Int) := of_decide_eq_true (by first | exact c16 | exact bl4 | exact asm)
 obtain ⟨be9, bl6, bl7, b76, L8, s0, s1⟩ := at_L3 (Kd.S_reads' q0.out).2.2 b9 uz4 uz5
 cases b76
 obtain ⟨bo6, U7, U8, v1⟩ := Kd.S_get q0.out [] b9 uz4 (by first | exact uz5 | exact of_decide_eq_true asm | (have e_ := (Kd.S_reads' q0.out).1; omega))
 obtain ⟨bf9, rfl, p9⟩ := U8
 have p0 := v1 0 _ rfl
 rw [Nat.add_zero, show ((Kd.slice 3 (Kd.int .i64))).sz = 1 from rfl, Nat.mul_one] at p0
 replace p0 := Option.some.inj (p0.symm.trans L8)
 rw [p0] at p9
 have bg0 := Aside0.mk (show Kd.R (Kd.int .i64) 3 _ _ _ _ (rd_L3 c2 b9) from p9)
 clear p0 p9 v1 U7
 have k7 := Aside0.mk s1
 have bg1 := Aside0.mk s0
 clear s1 s0
 replace uz4 := eq_true uz4
 replace uz5 := eq_true uz5
 have D0 : 0 ≤ (0 : Int) := (by decide)
 have D1 : 0 < ((rd_L3 c2 b9).length : Int) := of_decide_eq_true (by first | exact c19 | exact asm)
 obtain ⟨p1, b77, s2⟩ := Kd.at_int (cR k7) 0 D0 D1
 cases b77
 have bo7 : (0 < (rd_L3 c2 b9).length) = True := eq_true (nl0 D1)
 (try rw [show ((0 : Int)).toNat = 0 from rfl] at s2)
 (try rw [Addr.add_zero'] at s2)
 replace D0 := eq_true D0
 replace D1 := eq_true D1
 have D2 : 0 ≤ (1 : Int) := (by decide)
 have D3 : 1 < ((rd_L3 c2 b9).length : Int) := of_decide_eq_true (by first | exact c21 | exact asm)
 obtain ⟨ad9, b78, s3⟩ := Kd.at_int (cR k7) 1 D2 D3
 obtain rfl : p1 = ad9 := (by injection b78)
 (try simp only [show (1 : Int).toNat = 1 from rfl, Nat.reduceMul, Nat.reduceEqDiff, Go.Addr.add, ↓reduceIte] at s3)
 have bo8 : (1 < (rd_L3 c2 b9).length) = True := eq_true (nl1 D3)
 (try rw [show ((1 : Int)).toNat = 1 from rfl] at s3)
 replace D2 := eq_true D2
 replace D3 := eq_true D3
 have D4 : 0 ≤ (0 : Int) := (by decide)
 have D5 : 0 < ((rd_L3 c2 b9).length : Int) := of_decide_eq_true (by first | exact c19 | exact asm)
 obtain ⟨ae0, b79, s4⟩ := Kd.at_int (cR k7) 0 D4 D5
 obtain rfl : p1 = ae0 := (by injection b79)
 have bo9 : (0 < (rd_L3 c2 b9).length) = True := eq_true (nl0 D5)
 (try rw [show ((0 : Int)).toNat = 0 from rfl] at s4)
 (try rw [Addr.add_zero'] at s4)
 replace D4 := eq_true D4
 replace D5 := eq_true D5
 have D6 : 0 ≤ (0 : Int) := (by decide)
 have D7 : 0 < ((rd_L3 c2 b9).length : Int) := of_decide_eq_true (by first | exact c19 | exact asm)
 obtain ⟨ae1, b80, s5⟩ := Kd.at_int (cR k7) 0 D6 D7
 obtain rfl : p1 = ae1 := (by injection b80)
 have bp0 : (0 < (rd_L3 c2 b9).length) = True := eq_true (nl0 D7)
 (try rw [show ((0 : Int)).toNat = 0 from rfl] at s5)
 (try rw [Addr.add_zero'] at s5)
 replace D6 := eq_true D6
 replace D7 := eq_true D7
 have D8 : 0 ≤ (1 : Int) := (by decide)
 have D9 : 1 < ((rd_L3 c2 b9).length : Int) := of_decide_eq_true (by first | exact c21 | exact asm)
 obtain ⟨ae2, b81, s6⟩ := Kd.at_int (cR k7) 1 D8 D9
 obtain rfl : p1 = ae2 := (by injection b81)
 (try simp only [show (1 : Int).toNat = 1 from rfl, Nat.reduceMul, Nat.reduceEqDiff, Go.Addr.add, ↓reduceIte] at s6)
 have bp1 : (1 < (rd_L3 c2 b9).length) = True := eq_true (nl1 D9)
 (try rw [show ((1 : Int)).toNat = 1 from rfl] at s6)
 replace D8 := eq_true D8
 replace D9 := eq_true D9
 have E0 : 0 ≤ (0 : Int) := (by decide)
 have E1 : 0 < ((rd_L3 c2 b9).length : Int) := of_decide_eq_true (by first | exact c19 | exact asm)
 obtain ⟨ae3, b82, s7⟩ := Kd.at_int (cR k7) 0 E0 E1
 obtain rfl : p1 = ae3 := (by injection b82)
 have bp2 : (0 < (rd_L3 c2 b9).length) = True := eq_true (nl0 E1)
 (try rw [show ((0 : Int)).toNat = 0 from rfl] at s7)
 (try rw [Addr.add_zero'] at s7)
 replace E0 := eq_true E0
 replace E1 := eq_true E1
 have E2 : 0 ≤ (1 : Int) := (by decide)
 have E3 : 1 < ((rd_L3 c2 b9).length : Int) := of_decide_eq_true (by first | exact c21 | exact asm)
 obtain ⟨ae4, b83, s8⟩ := Kd.at_int (cR k7) 1 E2 E3
 obtain rfl : p1 = ae4 := (by injection b83)
 (try simp only [show (1 : Int).toNat = 1 from rfl, Nat.reduceMul, Nat.reduceEqDiff, Go.Addr.add, ↓reduceIte] at s8)
 have bp3 : (1 < (rd_L3 c2 b9).length) = True := eq_true (nl1 E3)
 (try rw [show ((1 : Int)).toNat = 1 from rfl] at s8)
 replace E2 := eq_true E2
 replace E3 := eq_true E3
 have ae5 : 0 ≤ ((o5) : Int) := of_decide_eq_true asm
 have ae6 : (o5) < (c2.length : Int) := of_decide_eq_true (by first | exact c39 | exact asm)
 obtain ⟨bp4, c44, c46, bt4, bg2, a79, a80⟩ := at_L3 (Kd.S_reads' p3.out).2.2 (o5) ae5 ae6
 obtain rfl : be9 = bp4 := (by injection bt4)
 obtain ⟨ce7, bl8, bl9, ay2⟩ := Kd.S_get p3.out [] (o5) ae5 (by first | exact ae6 | exact of_decide_eq_true asm | (have e_ := (Kd.S_reads' p3.out).1; omega))
 obtain ⟨by4, rfl, L9⟩ := bl9
 have s9 := ay2 0 _ rfl
 rw [Nat.add_zero, show ((Kd.slice 3 (Kd.int .i64))).sz = 1 from rfl, Nat.mul_one] at s9
 replace s9 := Option.some.inj (s9.symm.trans bg2)
 rw [s9] at L9
 have by5 := Aside0.mk (show Kd.R (Kd.int .i64) 3 _ _ _ _ (rd_L3 c2 (o5)) from L9)
 clear s9 L9 ay2 bl8
 have bg3 := Aside0.mk a80
 have by6 := Aside0.mk a79
 clear a80 a79
 replace ae5 := eq_true ae5
 replace ae6 := eq_true ae6
 have b84 : 0 ≤ (0 : Int) := (by decide)
 have b85 : 0 < ((rd_L3 c2 (o5)).length : Int) := of_decide_eq_true (by first | exact c40 | exact asm)
 obtain ⟨ce8, bt5, a81⟩ := Kd.at_int (cR bg3) 0 b84 b85
 cases bt5
 have ce9 : (0 < (rd_L3 c2 (o5)).length) = True := eq_true (nl0 b85)
 (try rw [show ((0 : Int)).toNat = 0 from rfl] at a81)
 (try rw [Addr.add_zero'] at a81)
 replace b84 := eq_true b84
 replace b85 := eq_true b85
 have b86 : 0 ≤ (0 : Int) := (by decide)
 have b87 : 0 < ((rd_L3 c2 b9).length : Int) := of_decide_eq_true (by first | exact c19 | exact asm)
 obtain ⟨bp5, bt6, a82⟩ := Kd.at_int (cR k7) 0 b86 b87
 obtain rfl : p1 = bp5 := (by injection bt6)
 have cf0 : (0 < (rd_L3 c2 b9).length) = True := eq_true (nl0 b87)
 (try rw [show ((0 : Int)).toNat = 0 from rfl] at a82)
 (try rw [Addr.add_zero'] at a82)
 replace b86 := eq_true b86
 replace b87 := eq_true b87
 repeat (go_not_at_region 40; first | (with_reducible refine rgl ?_) | go_skip | go_guarded | go_step | go_upon)
 repeat (go_quiet (fail); try go_wp2)
 go_roundg k5
 case measure => exact laws_FnLaddersWhole.jx
 case rel => exact ⟨(wrap64 (b9 + 1)), sR, H', ⟨laws_FnLaddersWhole.jx⟩, ⟨oS p3⟩, ⟨oR p6⟩, ⟨oS q0⟩, (bA a2), (bA a3), (bA a4), (bA a5), (bA a6), (bA a8), (bA a9), (bA b0), ⟨bB⟩⟩
 )
 rw [if_neg ad7] at H
 exact absurd H (by simp)
 )
 rw [if_neg ad6] at H
 exact absurd H (by simp)
 )
 rw [if_neg ad5] at H
 exact absurd H (by simp)
 )
 rw [if_neg L7] at H
 have bl5 : decide (0 < b9) = false := decide_eq_false L7
 clear L7
 have H' := Aside0.mk H
 clear H
 have uz4 : 0 ≤ (b9 : Int) := of_decide_eq_true asm
 have uz5 : b9 < (c2.length : Int) := of_decide_eq_true (by first | exact c16 | exact bl4 | exact asm)
 obtain ⟨be9, bl6, bl7, b76, L8, s0, s1⟩ := at_L3 (Kd.S_reads' q0.out).2.2 b9 uz4 uz5
 cases b76
 obtain ⟨bo6, U7, U8, v1⟩ := Kd.S_get q0.out [] b9 uz4 (by first | exact uz5 | exact of_decide_eq_true asm | (have e_ := (Kd.S_reads' q0.out).1; omega))
 obtain ⟨bf9, rfl, p9⟩ := U8
 have p0 := v1 0 _ rfl
 rw [Nat.add_zero, show ((Kd.slice 3 (Kd.int .i64))).sz = 1 from rfl, Nat.mul_one] at p0
 replace p0 := Option.some.inj (p0.symm.trans L8)
 rw [p0] at p9
 have bg0 := Aside0.mk (show Kd.R (Kd.int .i64) 3 _ _ _ _ (rd_L3 c2 b9) from p9)
 clear p0 p9 v1 U7
 have k7 := Aside0.mk s1
 have bg1 := Aside0.mk s0
 clear s1 s0
 replace uz4 := eq_true uz4
 replace uz5 := eq_true uz5
 have D0 : 0 ≤ (0 : Int) := (by decide)
 have D1 : 0 < ((rd_L3 c2 b9).length : Int) := of_decide_eq_true (by first | exact c19 | exact asm)
 obtain ⟨p1, b77, s2⟩ := Kd.at_int (cR k7) 0 D0 D1
 cases b77
 have bo7 : (0 < (rd_L3 c2 b9).length) = True := eq_true (nl0 D1)
 (try rw [show ((0 : Int)).toNat = 0 from rfl] at s2)
 (try rw [Addr.add_zero'] at s2)
 replace D0 := eq_true D0
 replace D1 := eq_true D1
 have D2 : 0 ≤ (1 : Int) := (by decide)
 have D3 : 1 < ((rd_L3 c2 b9).length : Int) := of_decide_eq_true (by first | exact c21 | exact asm)
 obtain ⟨ad9, b78, s3⟩ := Kd.at_int (cR k7) 1 D2 D3
 obtain rfl : p1 = ad9 := (by injection b78)
 (try simp only [show (1 : Int).toNat = 1 from rfl, Nat.reduceMul, Nat.reduceEqDiff, Go.Addr.add, ↓reduceIte] at s3)
 have bo8 : (1 < (rd_L3 c2 b9).length) = True := eq_true (nl1 D3)
 (try rw [show ((1 : Int)).toNat = 1 from rfl] at s3)
 replace D2 := eq_true D2
 replace D3 := eq_true D3
 have D4 : 0 ≤ (0 : Int) := (by decide)
 have D5 : 0 < ((rd_L3 c2 b9).length : Int) := of_decide_eq_true (by first | exact c19 | exact asm)
 obtain ⟨ae0, b79, s4⟩ := Kd.at_int (cR k7) 0 D4 D5
 obtain rfl : p1 = ae0 := (by injection b79)
 have bo9 : (0 < (rd_L3 c2 b9).length) = True := eq_true (nl0 D5)
 (try rw [show ((0 : Int)).toNat = 0 from rfl] at s4)
 (try rw [Addr.add_zero'] at s4)
 replace D4 := eq_true D4
 replace D5 := eq_true D5
 have D6 : 0 ≤ (0 : Int) := (by decide)
 have D7 : 0 < ((rd_L3 c2 b9).length : Int) := of_decide_eq_true (by first | exact c19 | exact asm)
 obtain ⟨ae1, b80, s5⟩ := Kd.at_int (cR k7) 0 D6 D7
 obtain rfl : p1 = ae1 := (by injection b80)
 have bp0 : (0 < (rd_L3 c2 b9).length) = True := eq_true (nl0 D7)
 (try rw [show ((0 : Int)).toNat = 0 from rfl] at s5)
 (try rw [Addr.add_zero'] at s5)
 replace D6 := eq_true D6
 replace D7 := eq_true D7
 have D8 : 0 ≤ (1 : Int) := (by decide)
 have D9 : 1 < ((rd_L3 c2 b9).length : Int) := of_decide_eq_true (by first | exact c21 | exact asm)
 obtain ⟨ae2, b81, s6⟩ := Kd.at_int (cR k7) 1 D8 D9
 obtain rfl : p1 = ae2 := (by injection b81)
 (try simp only [show (1 : Int).toNat = 1 from rfl, Nat.reduceMul, Nat.reduceEqDiff, Go.Addr.add, ↓reduceIte] at s6)
 have bp1 : (1 < (rd_L3 c2 b9).length) = True := eq_true (nl1 D9)
 (try rw [show ((1 : Int)).toNat = 1 from rfl] at s6)
 replace D8 := eq_true D8
 replace D9 := eq_true D9
 have E0 : 0 ≤ (0 : Int) := (by decide)
 have E1 : 0 < ((rd_L3 c2 b9).length : Int) := of_decide_eq_true (by first | exact c19 | exact asm)
 obtain ⟨ae3, b82, s7⟩ := Kd.at_int (cR k7) 0 E0 E1
 obtain rfl : p1 = ae3 := (by injection b82)
 have bp2 : (0 < (rd_L3 c2 b9).length) = True := eq_true (nl0 E1)
 (try rw [show ((0 : Int)).toNat = 0 from rfl] at s7)
 (try rw [Addr.add_zero'] at s7)
 replace E0 := eq_true E0
 replace E1 := eq_true E1
 have E2 : 0 ≤ (1 : Int) := (by decide)
 have E3 : 1 < ((rd_L3 c2 b9).length : Int) := of_decide_eq_true (by first | exact c21 | exact asm)
 obtain ⟨ae4, b83, s8⟩ := Kd.at_int (cR k7) 1 E2 E3
 obtain rfl : p1 = ae4 := (by injection b83)
 (try simp only [show (1 : Int).toNat = 1 from rfl, Nat.reduceMul, Nat.reduceEqDiff, Go.Addr.add, ↓reduceIte] at s8)
 have bp3 : (1 < (rd_L3 c2 b9).length) = True := eq_true (nl1 E3)
 (try rw [show ((1 : Int)).toNat = 1 from rfl] at s8)
 replace E2 := eq_true E2
 replace E3 := eq_true E3
 repeat (go_not_at_region 40; first | (with_reducible refine rgl ?_) | go_skip | go_guarded | go_step | go_upon)
 repeat (go_quiet (fail); try go_wp2)
 go_roundg k5
 case measure => exact laws_FnLaddersWhole.jx
 case rel => exact ⟨(wrap64 (b9 + 1)), sR, H', ⟨laws_FnLaddersWhole.jx⟩, ⟨oS p3⟩, ⟨oR p6⟩, ⟨oS q0⟩, (bA a2), (bA a3), (bA a4), (bA a5), (bA a6), (bA a8), (bA a9), (bA b0), ⟨bB⟩⟩
 )
 rw [if_neg ad4] at H
 exact fy HT_l H
 )
 rw [if_neg ad1] at H
 exact absurd H (by simp)
 )
 rw [if_neg ad0] at H
 exact absurd H (by simp)
 )
 rw [if_neg ac9] at H
 exact fy HT_l H
 )
 rw [if_neg ac8] at H
 exact absurd H (by simp)
 )
 rw [if_neg ac7] at H
 exact absurd H (by simp)
 )
 rw [if_neg L6] at H
 have bl4 : decide (b9 < (c2.length : Int)) = false := decide_eq_false L6
 clear L6
 have H' := Aside0.mk H
 clear H
 repeat (go_not_at_region 40; first | (with_reducible refine rgl ?_) | go_skip | go_guarded | go_step | go_upon)
 repeat (go_quiet (fail); try go_wp2)
 go_meet
 case rel => exact ⟨_, H', ⟨laws_FnLaddersWhole.jx⟩, ⟨oR p6⟩, (bA a2), (bA a3), (bA a4), (bA a5), (bA a6), (bA a8), (bA a9), (bA b0), ⟨bB⟩⟩
 )
 )
 )
 )
 )
 replace U5 := Bool.eq_false_iff.mpr U5
 subst U5
 rw [if_neg nft] at H
 have H' := Aside0.mk H
 clear H
 repeat (go_not_at_region 40; first | (with_reducible refine rgl ?_) | go_skip | go_guarded | go_step | go_upon)
 repeat (go_quiet (fail); try go_wp2)
 go_meet
 case rel => exact ⟨_, H', ⟨laws_FnLaddersWhole.jx⟩, ⟨oR p6⟩, (bA a2), (bA a3), (bA a4), (bA a5), (bA a6), (bA a8), (bA a9), (bA b0), ⟨bB⟩⟩
 )
 )
 clear ac3
 obtain ⟨kq, HA, HJ233, p6, a2, a3, a4, a5, a6, a8, a9, b0, HB⟩ := hcut
 rename_i K_ aK_
 exact aK_ _ _ (hR_ k A0 c0 l0 A1 c1 l1 r w d2 d3 d4 v9 x0 uz0 a86 a87 a88 uz1 uz2 x2 a89 a90 a91 x3 M1 a92 a93 e0 u122 u123 u124 u125 u126 u127 u128 u129 u130 u131 u132 u133 u134 u135 u136 u137 u138 u139 u140 u141 u142 u143 u144 u145 u146 u147 u148 u149 u150 u151 u152 u153 u154 u155 u156 u157 u158 u159 u160 u161 u162 u163 u164 u165 u166 u167 u168 u169 u170 u171 u172 u173 u174 u175 u176 x5 u22 u23 u24 u179 u180 u181 u182 u183 u184 u185 u186 u187 u188 u189 u190 u191 u192 u193 u194 u195 u196 u197 u198 u199 u200 u201 u202 u203 u204 u205 u206 u207 u208 u209 u210 u211 u212 u213 u214 u215 u216 u217 u218 u219 u220 u221 u222 u223 u224 u225 u226 u227 u228 u229 u230 u231 u232 u233 u234 u235 u236 u237 u238 u239 u240 u241 u242 u243 u244 u245 u246 u247 u248 u249 u250 u251 u252 u253 u254 u255 u256 u257 u258 d1 o6 c2 y2 o7 a94 y3 M2 a95 a96 o4 b1 r8 o8 a97 e5 e6 e7 q1 q2 m6 m7 m8 a98 a99 d7 d8 d9 o9 i6 i7 i9 q5 m9 n0 n1 aa0 p2 j0 j1 j2 q3 e8 e9 g0 aa1 aa2 bk1 K1 bk2 c3 c5 c6 c7 c8 c9 b4 u334 u335 u336 u337 u338 u339 u340 u341 u342 u343 u344 u345 u346 u347 u348 u349 u350 u351 u352 u353 u354 u355 u356 u357 u358 u359 u360 u361 u362 u363 u364 u365 u366 u367 u368 u369 u370 u371 u372 u373 u374 u375 u376 u377 u378 u379 u380 u381 u382 u383 u384 u385 u386 u387 u388 u389 u390 u391 u392 u393 u394 u395 u396 u397 u398 u399 u400 u401 u402 u403 u404 u405 u406 u407 u408 u409 u410 u411 u412 b75 wc u0 u4 u56 u57 u415 u416 u417 u418 u419 u420 u421 u422 u423 u424 u425 u426 u427 u428 u429 u430 u431 u432 u433 u434 u435 u436 u437 u438 u439 u440 u441 u442 u443 u444 u445 u446 u447 u448 u449 u450 u451 u452 u453 u454 u455 u456 u457 u458 u459 u460 u461 u462 u463 u464 u465 u466 u467 u468 u469 u470 u471 u472 u473 u474 u475 u476 u477 u478 u479 u480 u481 u482 u483 u484 u485 kq HM E4 E5 p7 p8 HT_l A3 A5 A6 A7 A8 A9 A10 A11 b94 b95 HJ11 HJ43 A66 A67 A68 A69 A70 A71 A72 A73 A74 A75 A76 A77 A78 A79 A80 A81 bc4 bc5 g1 g2 bc8 bc9 n2 n3 g3 g4 bd4 bd5 p4 p5 e1 e2 k8 k9 bd6 bd7 j5 j6 d5 d6 j7 j8 l2 l3 bd8 bd9 n4 n5 g5 g6 n6 n7 l4 l5 j9 k0 be0 be1 l6 l7 e3 e4 l8 l9 k4 k6 j3 j4 m0 m1 be2 be3 n8 n9 g7 g8 o0 o1 m2 m3 k1 k2 o2 o3 m4 m5 HJ81 HA HJ233 p6 a2 a3 a4 a5 a6 a8 a9 b0 HB)
 )
 )
end Go.Proofs.YtcfknhmdhglmfaaGreatDoor.PFnLaddersWhole
