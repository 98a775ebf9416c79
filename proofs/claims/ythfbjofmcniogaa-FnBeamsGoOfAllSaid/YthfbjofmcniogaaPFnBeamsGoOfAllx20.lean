-- Written by split3.py: the law's walk behind cut 1.
import Derived.Test.YthfbjofmcniogaaVM
import Derived.Test.YthfbjofmcniogaaVF
import Derived.Test.YthfbjofmcniogaaVS
import Derived.Test.YthfbjofmcniogaaPFnBeamsGoOfAllx0
import Derived.Test.YthfbjofmcniogaaPFnBeamsGoOfAllx1
import Derived.Test.YthfbjofmcniogaaPFnBeamsGoOfAllx6
import Derived.Test.YthfbjofmcniogaaPFnBeamsGoOfAllx9
import Derived.Test.YthfbjofmcniogaaPFnBeamsGoOfAllx10
import Derived.Test.YthfbjofmcniogaaPFnBeamsGoOfAllx11
import Derived.Test.YthfbjofmcniogaaPFnBeamsGoOfAllx12
import Derived.Test.YthfbjofmcniogaaPFnBeamsGoOfAllx13
import Derived.Test.YthfbjofmcniogaaPFnBeamsGoOfAllx14
import Derived.Test.YthfbjofmcniogaaPFnBeamsGoOfAllx15
import Derived.Test.YthfbjofmcniogaaPFnBeamsGoOfAllx16
import Derived.Test.YthfbjofmcniogaaPFnBeamsGoOfAllx17
import Derived.Test.YthfbjofmcniogaaPFnBeamsGoOfAllx18
namespace Go.Proofs.Ythfbjofmcniogaa.PFnBeamsGoOfAll
open Go.Proofs.YthfbjofmcniogaaV Go.RowKit Go.Proofs.YthfbjofmcniogaaW.PrintWords Go.Proofs.YthfbjofmcniogaaW.PrintLast Go.Proofs.YthfbjofmcniogaaW.PrintMore
attribute [local go_sem] max2_int min2_int max_two min_two max_three min_three max_four min_four   -- for this text's walks alone
attribute [local go_sem ↓] rdl_zero rdl_succ eval_lit
set_option linter.unusedVariables false
set_option linter.unusedSimpArgs false
attribute [local go_sem high] eqA30
set_option maxHeartbeats 100000000 in
set_option maxRecDepth 100000 in
theorem laws_FnBeamsGoOfAll.rest1 (hR_ : laws_FnBeamsGoOfAll.RestSaid2) : laws_FnBeamsGoOfAll.RestSaid1 := by
 intro k a0_0 a0_1 a1_0 a1_1 a1_2 a1_3 a2 a3_0 a3_1 a4_0 a4_1 a4_2 a4_3 a5 a6 a7_0 a7_1 a8_0 a8_1 a8_2 a8_3 a9 r w a0 C9 P1 b50 n7 n8 b53 b54 l3 l9 b57 b58 l4 l7 b61 b62 g5 g6 g7 g8 ae1 h8 h9 i0 i1 b65 e9 h2 k0 k1 h4 k2 D0 b67 g9 e3 wc u148 u149 u150 u151 u152 u153 u154 u155 u156 u157 u158 u159 u160 u161 u162 u163 u164 u165 u166 u167 u168 u169 u170 u171 u172 u173 u174 u175 u176 u177 u178 u179 u180 u181 u182 u183 u184 u185 u186 u187 u188 u189 u190 u191 u192 u193 u194 u195 u196 u197 u198 u199 u200 u201 u202 u203 u204 u205 u206 u207 u208 u209 u210 u211 u212 u213 u214 u215 u216 u217 u218 u219 u220 u221 u222 u223 u224 u225 u226 u227 u228 u229 u230 u231 u232 u233 u234 u235 u236 u237 u238 u239 u240 u241 u242 u243 u244 u245 u246 u247 u248 u249 u250 u251 u252 u253 u254 kq B2 HT_l A11 A12 A13 A14 A15 A16 A17 A18 A19 A20 gq9 gr0 gr1 gr2 d6 d7 gr3 gr4 d1 d2 o1 o2 gr5 gr6 d3 d4 o3 o4 G8 G9 gr7 gr8 c2 c3 h6 h7 k3 k4 k6 k7 gr9 gs0 c6 c7 m0 m1 s4 s5 s6 s7 l5 l6 gt9 gu0 d9 e0 s8 s9 u0 u1 u2 u3 j1 j2 q0 q1 gv3 gv4 e1 e2 u4 u5 z1 z2 z3 z4 k8 k9 u6 u7 I0 I1 HA HJ20 b5 a1 a4 a7 b0 a8 b1 b2 b3 HB K1_ aK1_
 conv at aK1_ => enter [a_, w_, 1, 2]; whnf
 conv => enter [2]; whnf
 have h41 := Try.underlying28
 have h42 := Try.underlying30
 (try clear ch5); (try clear ch6); (try clear ch7); (try clear ch8); (try clear ch9); (try clear ci0); (try clear ci1); (try clear ci2); (try clear ci3); (try clear ci4); (try clear ci5); (try clear ci6); (try clear ci7); (try clear ci8); (try clear ci9); (try clear cj0); (try clear cj1); (try clear cj2); (try clear cj3); (try clear cj4); (try clear cj5); (try clear cj6); (try clear cj7); (try clear cj8); (try clear cj9); (try clear ck0); (try clear ck1); (try clear ck2); (try clear ck3); (try clear ck4); (try clear ck5); (try clear ck6); (try clear ck7); (try clear ck8); (try clear ck9); (try clear cl0); (try clear cl1); (try clear cl2); (try clear cl3); (try clear cl4); (try clear cl5); (try clear cl6); (try clear cl7); (try clear cl8); (try clear cl9); (try clear cm0); (try clear cm1); (try clear cm2); (try clear cm3); (try clear cm4); (try clear cm5); (try clear cm6); (try clear cm7); (try clear cm8); (try clear cm9); (try clear cn0); (try clear cn1); (try clear cn2); (try clear cn3); (try clear cn4); (try clear cn5); (try clear cn6); (try clear cn7); (try clear cn8); (try clear cn9); (try clear co0); (try clear co1); (try clear co2); (try clear co3); (try clear co4); (try clear co5); (try clear co6); (try clear co7); (try clear co8); (try clear co9); (try clear cp0); (try clear cp1); (try clear cp2); (try clear cp3); (try clear cp4); (try clear cp5); (try clear cp6); (try clear cp7); (try clear cp8); (try clear cp9); (try clear cq0); (try clear cq1); (try clear cq2); (try clear cq3); (try clear cq4); (try clear cq5); (try clear cq6); (try clear cq7); (try clear cq8); (try clear cq9); (try clear cr0); (try clear cr1); (try clear cr2); (try clear cr3); (try clear cr4); (try clear cr5); (try clear cr6); (try clear cr7); (try clear cr8); (try clear cr9); (try clear cs0); (try clear cs1); (try clear cs2); (try clear cs3); (try clear cs4); (try clear cs5); (try clear cs6); (try clear cs7); (try clear cs8); (try clear cs9); (try clear ct0); (try clear ct1); (try clear ct2); (try clear ct3); (try clear ct4); (try clear ct5); (try clear ct6); (try clear ct7); (try clear ct8); (try clear ct9); (try clear cu0); (try clear cu1); (try clear cu2); (try clear cu3); (try clear cu4); (try clear cu5); (try clear cu6); (try clear cu7); (try clear cu8); (try clear cu9); (try clear cv0); (try clear gs1); (try clear gs2); (try clear gs3); (try clear gs4); (try clear gs5); (try clear gs6); (try clear gs7); (try clear gs8); (try clear gs9); (try clear gt0); (try clear gt1); (try clear gt2); (try clear gt3); (try clear gt4); (try clear gt5); (try clear gt6); (try clear gt7); (try clear gt8); (try clear gu1); (try clear gu2); (try clear gu3); (try clear gu4); (try clear gu5); (try clear gu6); (try clear gu7); (try clear gu8); (try clear gu9); (try clear gv0); (try clear gv1); (try clear gv2); (try clear gv5); (try clear gv6); (try clear gv7); (try clear gv8); (try clear gv9); (try clear gw0); (try clear gw1); (try clear gw2); (try clear gw3); (try clear gw4); (try clear gw5); (try clear gw6); (try clear gw7); (try clear gw8)
 cases kq with
 | zero => exact absurd HA.out (by simp [laws_FnBeamsGoOfAll.j0])
 | succ b76 => (
 as_aux_lemma => (
 have H := HA.out
 clear HA
 simp only [laws_FnBeamsGoOfAll.j0] at H
 by_cases R2 : B2 = true
 ·(
 subst R2
 rw [if_pos rfl] at H
 exact fy HT_l H
 )
 replace R2 := Bool.eq_false_iff.mpr R2
 subst R2
 rw [if_neg nft] at H
 have R3 := Aside0.mk H
 clear H
 repeat (go_not_at_if 256; first | go_skip | go_guarded | go_step | go_upon)
 go_cut [256] from 256 to 256 (fun h47 wc => ∃ (kq : Nat), Aside0 (laws_FnBeamsGoOfAll.j10 kq a5 a6 a9 l3 l9 l4 l7 a0_0 a0_1 a1_0 a1_1 a1_2 a1_3 a3_0 a3_1 a4_0 a4_1 a4_2 a4_3 a7_0 a7_1 a8_0 a8_1 a8_2 a8_3 g5 g6 g7 g8 = some r) ∧ Aside0 (kq ≤ b76) ∧ Aside0 (wc.heap[e9]? = some (.cells #[.int .i64 a0_0, .int .i64 a0_1] 28 (0, 0))) ∧ Aside0 (wc.heap[h2]? = some (.cells #[.int .i64 a1_0, .int .i64 a1_1, .bool a1_2, .bool a1_3] 30 (0, 0))) ∧ Aside0 (wc.heap[k0]? = some (.cells #[.int .i64 a3_0, .int .i64 a3_1] 28 (0, 0))) ∧ Aside0 (wc.heap[k1]? = some (.cells #[.int .i64 a4_0, .int .i64 a4_1, .bool a4_2, .bool a4_3] 30 (0, 0))) ∧ Aside0 (wc.heap[h4]? = some (.cells #[.int .i64 a7_0, .int .i64 a7_1] 28 (0, 0))) ∧ Aside0 (wc.heap[k2]? = some (.cells #[.int .i64 a8_0, .int .i64 a8_1, .bool a8_2, .bool a8_3] 30 (0, 0))) ∧ Aside0 (wc.heap[g9]? = some (.cells #[.int .i64 g5, .int .i64 g6, .bool g7, .bool g8] 30 (0, 0))) ∧ Aside0 (wc.heap[e3]? = some (.cells #[.int .i64 h8, .int .i64 h9, .bool i0, .bool i1] 30 (0, 0))) ∧ Aside0 (Below w.heap.size w wc))
 case first => (
 as_aux_lemma => (
 have H := R3.out
 clear R3
 by_cases J7 : C9 = true
 ·(
 subst J7
 rw [if_pos rfl] at H
 have R4 := Aside0.mk H
 clear H
 repeat (go_not_at_region 15; first | go_skip | go_guarded | go_step | go_upon)
 go_cut [263] from 263 to 263 (fun b77 wc => ∃ (kq : Nat) (x8 : Bool), b77 = .bool x8 ∧ Aside0 (laws_FnBeamsGoOfAll.j1 kq a2 a5 a6 a9 a0 n7 n8 l3 l9 l4 l7 a2 x8 a0_0 a0_1 a1_0 a1_1 a1_2 a1_3 a3_0 a3_1 a4_0 a4_1 a4_2 a4_3 a7_0 a7_1 a8_0 a8_1 a8_2 a8_3 g5 g6 g7 g8 = some r) ∧ Aside0 (kq ≤ b76) ∧ Aside0 (Kd.S (Kd.slice 3 (Kd.int .i64)) 40 wc w.heap.size (fun _ => True) D0 a0) ∧ Aside0 (wc.heap[e9]? = some (.cells #[.int .i64 a0_0, .int .i64 a0_1] 28 (0, 0))) ∧ Aside0 (wc.heap[h2]? = some (.cells #[.int .i64 a1_0, .int .i64 a1_1, .bool a1_2, .bool a1_3] 30 (0, 0))) ∧ Aside0 (wc.heap[k0]? = some (.cells #[.int .i64 a3_0, .int .i64 a3_1] 28 (0, 0))) ∧ Aside0 (wc.heap[k1]? = some (.cells #[.int .i64 a4_0, .int .i64 a4_1, .bool a4_2, .bool a4_3] 30 (0, 0))) ∧ Aside0 (wc.heap[h4]? = some (.cells #[.int .i64 a7_0, .int .i64 a7_1] 28 (0, 0))) ∧ Aside0 (wc.heap[k2]? = some (.cells #[.int .i64 a8_0, .int .i64 a8_1, .bool a8_2, .bool a8_3] 30 (0, 0))) ∧ Aside0 (wc.heap[g9]? = some (.cells #[.int .i64 g5, .int .i64 g6, .bool g7, .bool g8] 30 (0, 0))) ∧ Aside0 (wc.heap[e3]? = some (.cells #[.int .i64 h8, .int .i64 h9, .bool i0, .bool i1] 30 (0, 0))) ∧ Aside0 (Below w.heap.size w wc))
 case first => (
 as_aux_lemma => (
 have H := R4.out
 clear R4
 by_cases R5 : n8 = true
 ·(
 subst R5
 rw [if_pos rfl] at H
 have H' := Aside0.mk H
 clear H
 repeat (go_not_at_region 11; go_not_at_region 17; go_not_at_region 26; go_not_at_region 27; go_not_at_region 42; go_not_at_region 78; go_not_at_region 81; first | go_skip | go_guarded | go_step | go_upon)
 go_meet
 case rel => exact ⟨_, (decide (n7 < a2)), sR, H', ⟨laws_FnBeamsGoOfAll.jx⟩, ⟨oS b5⟩, (bA a1), (bA a4), (bA a7), (bA b0), (bA a8), (bA b1), (bA b2), (bA b3), ⟨bB⟩⟩
 )
 replace R5 := Bool.eq_false_iff.mpr R5
 subst R5
 rw [if_neg nft] at H
 have H' := Aside0.mk H
 clear H
 repeat (go_not_at_region 11; go_not_at_region 17; go_not_at_region 26; go_not_at_region 27; go_not_at_region 42; go_not_at_region 78; go_not_at_region 81; first | go_skip | go_guarded | go_step | go_upon)
 go_meet
 case rel => exact ⟨_, (false), sR, H', ⟨laws_FnBeamsGoOfAll.jx⟩, ⟨oS b5⟩, (bA a1), (bA a4), (bA a7), (bA b0), (bA a8), (bA b1), (bA b2), (bA b3), ⟨bB⟩⟩
 )
 )
 clear R4
 try clear J7
 obtain ⟨kq, x8, rfl, HA, HJ154, b5, a1, a4, a7, b0, a8, b1, b2, b3, HB⟩ := hcut
 cases kq with
 | zero => exact absurd HA.out (by simp [laws_FnBeamsGoOfAll.j1])
 | succ bh2 => (
 as_aux_lemma => (
 have H := HA.out
 clear HA
 simp only [laws_FnBeamsGoOfAll.j1] at H
 have R6 := Aside0.mk H
 clear H
 repeat (go_not_at_if 263; first | go_skip | go_guarded | go_step | go_upon)
 go_cut [41, 263] from 41 to 41 (fun v41 b77 wc => ∃ (kq : Nat) (B3 : Int), v41 = .int .i64 B3 ∧ Aside0 (laws_FnBeamsGoOfAll.j2 kq a2 a5 a6 a9 a0 n7 n8 l3 l9 l4 l7 B3 a0_0 a0_1 a1_0 a1_1 a1_2 a1_3 a3_0 a3_1 a4_0 a4_1 a4_2 a4_3 a7_0 a7_1 a8_0 a8_1 a8_2 a8_3 g5 g6 g7 g8 = some r) ∧ Aside0 (kq ≤ bh2) ∧ Aside0 (Kd.S (Kd.slice 3 (Kd.int .i64)) 40 wc w.heap.size (fun _ => True) D0 a0) ∧ Aside0 (wc.heap[e9]? = some (.cells #[.int .i64 a0_0, .int .i64 a0_1] 28 (0, 0))) ∧ Aside0 (wc.heap[h2]? = some (.cells #[.int .i64 a1_0, .int .i64 a1_1, .bool a1_2, .bool a1_3] 30 (0, 0))) ∧ Aside0 (wc.heap[k0]? = some (.cells #[.int .i64 a3_0, .int .i64 a3_1] 28 (0, 0))) ∧ Aside0 (wc.heap[k1]? = some (.cells #[.int .i64 a4_0, .int .i64 a4_1, .bool a4_2, .bool a4_3] 30 (0, 0))) ∧ Aside0 (wc.heap[h4]? = some (.cells #[.int .i64 a7_0, .int .i64 a7_1] 28 (0, 0))) ∧ Aside0 (wc.heap[k2]? = some (.cells #[.int .i64 a8_0, .int .i64 a8_1, .bool a8_2, .bool a8_3] 30 (0, 0))) ∧ Aside0 (wc.heap[g9]? = some (.cells #[.int .i64 g5, .int .i64 g6, .bool g7, .bool g8] 30 (0, 0))) ∧ Aside0 (wc.heap[e3]? = some (.cells #[.int .i64 h8, .int .i64 h9, .bool i0, .bool i1] 30 (0, 0))) ∧ Aside0 (Below w.heap.size w wc))
 case first => (
 as_aux_lemma => (
 have H := R6.out
 clear R6
 by_cases R7 : x8 = true
 ·(
 subst R7
 rw [if_pos rfl] at H
 have H' := Aside0.mk H
 clear H
 repeat (go_not_at_region 11; go_not_at_region 17; go_not_at_region 26; go_not_at_region 27; go_not_at_region 42; go_not_at_region 78; go_not_at_region 81; first | go_skip | go_guarded | go_step | go_upon)
 go_meet
 case rel => exact ⟨_, (n7), sR, H', ⟨laws_FnBeamsGoOfAll.jx⟩, ⟨oS b5⟩, (bA a1), (bA a4), (bA a7), (bA b0), (bA a8), (bA b1), (bA b2), (bA b3), ⟨bB⟩⟩
 )
 replace R7 := Bool.eq_false_iff.mpr R7
 subst R7
 rw [if_neg nft] at H
 have H' := Aside0.mk H
 clear H
 repeat (go_not_at_region 11; go_not_at_region 17; go_not_at_region 26; go_not_at_region 27; go_not_at_region 42; go_not_at_region 78; go_not_at_region 81; first | go_skip | go_guarded | go_step | go_upon)
 go_meet
 case rel => exact ⟨_, (a2), sR, H', ⟨laws_FnBeamsGoOfAll.jx⟩, ⟨oS b5⟩, (bA a1), (bA a4), (bA a7), (bA b0), (bA a8), (bA b1), (bA b2), (bA b3), ⟨bB⟩⟩
 )
 )
 clear R6
 obtain ⟨kq, B3, rfl, HA, HJ156, b5, a1, a4, a7, b0, a8, b1, b2, b3, HB⟩ := hcut
 cases kq with
 | zero => exact absurd HA.out (by simp [laws_FnBeamsGoOfAll.j2])
 | succ R8 => (
 as_aux_lemma => (
 have H := HA.out
 clear HA
 simp only [laws_FnBeamsGoOfAll.j2] at H
 have R9 := Aside0.mk H
 clear H
 repeat (go_not_at_region 17; first | go_skip | go_guarded | go_step | go_upon)
 go_cut [289] from 289 to 289 (fun bk4 wc => ∃ (kq : Nat) (y0 : Bool), bk4 = .bool y0 ∧ Aside0 (laws_FnBeamsGoOfAll.j3 kq a2 a5 a6 a9 a0 n7 n8 l3 l9 l4 l7 y0 a0_0 a0_1 a1_0 a1_1 a1_2 a1_3 a3_0 a3_1 a4_0 a4_1 a4_2 a4_3 a7_0 a7_1 a8_0 a8_1 a8_2 a8_3 g5 g6 g7 g8 = some r) ∧ Aside0 (kq ≤ R8) ∧ Aside0 (Kd.S (Kd.slice 3 (Kd.int .i64)) 40 wc w.heap.size (fun _ => True) D0 a0) ∧ Aside0 (wc.heap[e9]? = some (.cells #[.int .i64 a0_0, .int .i64 a0_1] 28 (0, 0))) ∧ Aside0 (wc.heap[h2]? = some (.cells #[.int .i64 a1_0, .int .i64 a1_1, .bool a1_2, .bool a1_3] 30 (0, 0))) ∧ Aside0 (wc.heap[k0]? = some (.cells #[.int .i64 a3_0, .int .i64 a3_1] 28 (0, 0))) ∧ Aside0 (wc.heap[k1]? = some (.cells #[.int .i64 a4_0, .int .i64 a4_1, .bool a4_2, .bool a4_3] 30 (0, 0))) ∧ Aside0 (wc.heap[h4]? = some (.cells #[.int .i64 a7_0, .int .i64 a7_1] 28 (0, 0))) ∧ Aside0 (wc.heap[k2]? = some (.cells #[.int .i64 a8_0, .int .i64 a8_1, .bool a8_2, .bool a8_3] 30 (0, 0))) ∧ Aside0 (wc.heap[g9]? = some (.cells #[.int .i64 g5, .int .i64 g6, .bool g7, .bool g8] 30 (0, 0))) ∧ Aside0 (wc.heap[e3]? = some (.cells #[.int .i64 h8, .int .i64 h9, .bool i0, .bool i1] 30 (0, 0))) ∧ Aside0 (Below w.heap.size w wc))
 case first => (
 as_aux_lemma => (
 have H := R9.out
 clear R9
 by_cases S0 : (a0.length : Int) = (wrap64 (B3 + 1))
 ·(
 rw [if_pos S0] at H
 obtain ⟨a57, cx9⟩ := yE S0
 clear S0
 (first | rw [a57] | (simp only [i64_w, i32_w]; rw [a57]) | skip)
 by_cases S1 : 0 < (a0.length : Int)
 ·(
 rw [if_pos S1] at H
 have cy0 : decide (0 < (a0.length : Int)) = true := decide_eq_true S1
 have cy1 : decide (0 < a0.length) = true := decide_eq_true (nl0 S1)
 clear S1
 by_cases S2 : 0 < ((rd_L4 a0 0).length : Int)
 ·(
 rw [if_pos S2] at H
 have cy2 : decide (0 < ((rd_L4 a0 0).length : Int)) = true := decide_eq_true S2
 have cy3 : decide (0 < (rd_L4 a0 0).length) = true := decide_eq_true (nl0 S2)
 clear S2
 by_cases S3 : (rd (rd_L4 a0 0) 0) = a1_0
 ·(
 rw [if_pos S3] at H
 obtain ⟨cy4, cy5⟩ := yE S3
 clear S3
 by_cases S4 : 1 < ((rd_L4 a0 0).length : Int)
 ·(
 rw [if_pos S4] at H
 have cy6 : decide (1 < ((rd_L4 a0 0).length : Int)) = true := decide_eq_true S4
 have cy7 : decide (1 < (rd_L4 a0 0).length) = true := decide_eq_true (nl1 S4)
 clear S4
 have H' := Aside0.mk H
 clear H
 repeat (go_not_at_region 11; go_not_at_region 17; go_not_at_region 26; go_not_at_region 27; go_not_at_region 42; go_not_at_region 78; go_not_at_region 81; first | go_skip | go_guarded | go_step | go_upon)
 replace b5 := Aside0.mk (Kd.S_drew b5.out)
 replace a1 := bD1 a1
 replace a4 := bD1 a4
 replace a7 := bD1 a7
 replace b0 := bD1 b0
 replace a8 := bD1 a8
 replace b1 := bD1 b1
 replace b2 := bD1 b2
 replace b3 := bD1 b3
 replace HB := Aside0.mk (below_drew1 HB.out)
 obtain ⟨gz6, gz7, b12⟩ := Kd.S_slice b5.out
 (first | subst b12 | (injection b12 with f1_ f2_ f3_; have f4_ := f1_.symm; have f5_ := f3_.symm; clear f1_ f2_ f3_; subst f4_; subst f5_))
 have S5 : 0 ≤ (0 : Int) := (by decide)
 have S6 : 0 < (a0.length : Int) := of_decide_eq_true (by first | exact cy0 | exact asm)
 obtain ⟨S7, cy8, a58, bk5, q9, N9, O0⟩ := at_L4 (Kd.S_reads' b5.out).2.2 0 S5 S6
 cases bk5
 obtain ⟨gz8, b78, b79, a59⟩ := Kd.S_get b5.out [] 0 S5 (by first | exact S6 | exact of_decide_eq_true asm | (have e_ := (Kd.S_reads' b5.out).1; omega))
 obtain ⟨cv1, rfl, F0⟩ := b79
 have v7 := a59 0 _ rfl
 rw [Nat.add_zero, show ((Kd.slice 3 (Kd.int .i64))).sz = 1 from rfl, Nat.mul_one] at v7
 replace v7 := Option.some.inj (v7.symm.trans q9)
 rw [v7] at F0
 have b47 := Aside0.mk (show Kd.R (Kd.int .i64) 3 _ _ _ _ (rd_L4 a0 0) from F0)
 clear v7 F0 a59 b78
 have gz9 : (0 < a0.length) = True := eq_true (nl0 S6)
 (try rw [show ((0 : Int)).toNat = 0 from rfl] at q9)
 (try rw [Addr.add_zero'] at q9)
 have O1 := Aside0.mk O0
 have cv2 := Aside0.mk N9
 clear O0 N9
 replace S5 := eq_true S5
 replace S6 := eq_true S6
 have ae3 : 0 ≤ (0 : Int) := (by decide)
 have ae4 : 0 < ((rd_L4 a0 0).length : Int) := of_decide_eq_true (by first | exact cy2 | exact asm)
 obtain ⟨b13, bk6, B4⟩ := Kd.at_int (cR O1) 0 ae3 ae4
 cases bk6
 have h00 : (0 < (rd_L4 a0 0).length) = True := eq_true (nl0 ae4)
 (try rw [show ((0 : Int)).toNat = 0 from rfl] at B4)
 (try rw [Addr.add_zero'] at B4)
 replace ae3 := eq_true ae3
 replace ae4 := eq_true ae4
 have S8 : 0 ≤ (0 : Int) := (by decide)
 have S9 : 0 < (a0.length : Int) := of_decide_eq_true (by first | exact cy0 | exact asm)
 obtain ⟨bh3, cy9, cz0, bk7, r0, O2, O3⟩ := at_L4 (Kd.S_reads' b5.out).2.2 0 S8 S9
 obtain rfl : S7 = bh3 := (by injection bk7)
 obtain ⟨h01, b80, b81, a60⟩ := Kd.S_get b5.out [] 0 S8 (by first | exact S9 | exact of_decide_eq_true asm | (have e_ := (Kd.S_reads' b5.out).1; omega))
 obtain ⟨cv3, rfl, F1⟩ := b81
 have v8 := a60 0 _ rfl
 rw [Nat.add_zero, show ((Kd.slice 3 (Kd.int .i64))).sz = 1 from rfl, Nat.mul_one] at v8
 replace v8 := Option.some.inj (v8.symm.trans r0)
 rw [v8] at F1
 have b48 := Aside0.mk (show Kd.R (Kd.int .i64) 3 _ _ _ _ (rd_L4 a0 0) from F1)
 clear v8 F1 a60 b80
 have h02 : (0 < a0.length) = True := eq_true (nl0 S9)
 (try rw [show ((0 : Int)).toNat = 0 from rfl] at r0)
 (try rw [Addr.add_zero'] at r0)
 have O4 := Aside0.mk O3
 have cv4 := Aside0.mk O2
 clear O3 O2
 replace S8 := eq_true S8
 replace S9 := eq_true S9
 have ea_ := Option.some.inj (q9.symm.trans r0)
 injection ea_ with ea_ en_ ec_
 subst ea_
 subst ec_
 clear en_
 have ae5 : 0 ≤ (1 : Int) := (by decide)
 have ae6 : 1 < ((rd_L4 a0 0).length : Int) := of_decide_eq_true (by first | exact cy6 | exact asm)
 obtain ⟨T0, bk8, B5⟩ := Kd.at_int (cR O4) 1 ae5 ae6
 cases bk8
 (try simp only [show (1 : Int).toNat = 1 from rfl, Nat.reduceMul, Nat.reduceEqDiff, Go.Addr.add, ↓reduceIte] at B5)
 have h03 : (1 < (rd_L4 a0 0).length) = True := eq_true (nl1 ae6)
 (try rw [show ((1 : Int)).toNat = 1 from rfl] at B5)
 replace ae5 := eq_true ae5
 replace ae6 := eq_true ae6
 as_aux_lemma => (
 refine st_ 25 laws_FnBeamsGoOfAll.pl1 (S := fun w' => w'.cell? ⟨h2, 0, none⟩ = some (.int .i64 a1_0) ∧ w'.cell? ⟨h2, 1, none⟩ = some (.int .i64 a1_1) ∧ w'.cell? ⟨h2, 2, none⟩ = some (.bool a1_2) ∧ w'.cell? ⟨h2, 3, none⟩ = some (.bool a1_3) ∧ w'.cell? S7 = some (.slice (some b13) (rd_L4 a0 0).length a58) ∧ w'.cell? b13 = some (.int .i64 (rd (rd_L4 a0 0) 0)) ∧ w'.cell? S7 = some (.slice (some b13) (rd_L4 a0 0).length a58) ∧ w'.cell? ⟨b13.block, b13.off + 1, none⟩ = some (.int .i64 (rd (rd_L4 a0 0) 1))) (ds := []) laws_FnBeamsGoOfAll.tab17 laws_FnBeamsGoOfAll.bits17 ⟨cb a4 0, cb a4 1, cb a4 2, cb a4 3, q9, B4, r0, B5⟩ (fun hHeld HT_ HW_ => ?_)
 generalize wc.drew = h48 at b5 a1 a4 a7 b0 a8 b1 b2 b3 HB b47 b48 O1 O4 q9 B4 r0 B5 hHeld ⊢
 iterate 25 (first | refine rA HT_ ?_ | refine rT HT_ HW_ hHeld ?_)
 refine pD HT_ ?_
 repeat (go_not_at_region 11; go_not_at_region 17; go_not_at_region 26; go_not_at_region 27; go_not_at_region 42; go_not_at_region 78; go_not_at_region 81; first | go_skip | go_guarded | go_step | go_upon)
 (try rw [dSet])
 go_meet
 case rel => exact ⟨_, (((rd (rd_L4 a0 0) 1) != a1_1)), sR, H', ⟨laws_FnBeamsGoOfAll.jx⟩, ⟨oS b5⟩, (bA a1), (bA a4), (bA a7), (bA b0), (bA a8), (bA b1), (bA b2), (bA b3), ⟨bB⟩⟩
 )
 )
 rw [if_neg S4] at H
 exact absurd H (by simp)
 )
 rw [if_neg S3] at H
 exact absurd H (by cases R8 <;> simp [laws_FnBeamsGoOfAll.j3, HT_l.out])
 )
 rw [if_neg S2] at H
 exact absurd H (by simp)
 )
 rw [if_neg S1] at H
 exact absurd H (by simp)
 )
 rw [if_neg S0] at H
 exact absurd H (by cases R8 <;> simp [laws_FnBeamsGoOfAll.j3, HT_l.out])
 )
 )
 clear R9
 obtain ⟨kq, y0, rfl, HA, HJ158, b5, a1, a4, a7, b0, a8, b1, b2, b3, HB⟩ := hcut
 cases kq with
 | zero => exact absurd HA.out (by simp [laws_FnBeamsGoOfAll.j3])
 | succ b14 => (
 as_aux_lemma => (
 have H := HA.out
 clear HA
 simp only [laws_FnBeamsGoOfAll.j3] at H
 by_cases T1 : y0 = true
 ·(
 subst T1
 rw [if_pos rfl] at H
 exact fy HT_l H
 )
 replace T1 := Bool.eq_false_iff.mpr T1
 subst T1
 rw [if_neg nft] at H
 replace H := Option.bind_eq_some_iff.mp H; obtain ⟨⟨d5, bk9⟩, b15, H⟩ := H; (try dsimp only at H); have bl0 := Aside0.mk b15; clear b15
 by_cases J8 : bk9 = true
 ·(
 subst J8
 rw [if_pos rfl] at H
 have H' := Aside0.mk H
 clear H
 have cz1 := d6.out
 have cz2 := d7.out
 have cz3 := d1.out
 have cz4 := d2.out
 have cz5 := d3.out
 have cz6 := d4.out
 have cz7 := c2.out
 have cz8 := c3.out
 have cz9 := c6.out
 have d00 := c7.out
 have d01 := d9.out
 have d02 := e0.out
 have d03 := e1.out
 have d04 := e2.out
 obtain ⟨ae7, ae8, ae9, af0⟩ := cf2 a1
 have d05 := o1.out
 have d06 := o2.out
 have d07 := o3.out
 have d08 := o4.out
 have d09 := h6.out
 have d10 := h7.out
 have d11 := m0.out
 have d12 := m1.out
 have d13 := s8.out
 have d14 := s9.out
 have d15 := u4.out
 have d16 := u5.out
 obtain ⟨af1, af2, af3, af4, af5, af6, af7, af8⟩ := cf4 a4
 repeat (go_not_at_region 11; go_not_at_region 17; go_not_at_region 26; go_not_at_region 27; go_not_at_region 42; go_not_at_region 78; go_not_at_region 81; first | ((with_reducible refine gate_callee (f := 24) rfl ?_); refine goesL_ (some 294) rfl rfl Try.func24 kr rfl #[.agg #[.int .i64 a0_0, .int .i64 a0_1], .agg #[.int .i64 a1_0, .int .i64 a1_1, .bool a1_2, .bool a1_3], .int .i64 a2] rfl sM ?_; (with_reducible refine (impl_BouncesWithin.calls a0_0 a0_1 a1_0 a1_1 a1_2 a1_3 a2 d5 true _ bl0.out).mono ?_); rintro e h49 ⟨rfl, hb⟩; refine ⟨_, rfl, ?_⟩; replace b5 := Aside0.mk (Kd.S_below (oS b5) hb); replace a1 := bQ a1 hb; replace a4 := bQ a4 hb; replace a7 := bQ a7 hb; replace b0 := bQ b0 hb; replace a8 := bQ a8 hb; replace b1 := bQ b1 hb; replace b2 := bQ b2 hb; replace b3 := bQ b3 hb; replace HB := Aside0.mk (below_step bB hb); (try clear hb)) | go_skip | go_guarded | go_step | go_upon)
 go_loopg [44, 45] b14 (fun kq v44 v45 w' => ∃ (b8 : Int) (a3 : Int), v44 = .int .i64 b8 ∧ v45 = .int .i64 a3 ∧ Aside0 (laws_FnBeamsGoOfAll.l0 kq a5 a6 a9 a0 n7 n8 l3 l9 l4 l7 d5 b8 a3 a0_0 a0_1 a1_0 a1_1 a1_2 a1_3 a3_0 a3_1 a4_0 a4_1 a4_2 a4_3 a7_0 a7_1 a8_0 a8_1 a8_2 a8_3 g5 g6 g7 g8 = some r) ∧ Aside0 (kq ≤ b14) ∧ Aside0 (Kd.S (Kd.slice 3 (Kd.int .i64)) 40 w' w.heap.size (fun _ => True) D0 a0) ∧ Aside0 (w'.heap[e9]? = some (.cells #[.int .i64 a0_0, .int .i64 a0_1] 28 (0, 0))) ∧ Aside0 (w'.heap[h2]? = some (.cells #[.int .i64 a1_0, .int .i64 a1_1, .bool a1_2, .bool a1_3] 30 (0, 0))) ∧ Aside0 (w'.heap[k0]? = some (.cells #[.int .i64 a3_0, .int .i64 a3_1] 28 (0, 0))) ∧ Aside0 (w'.heap[k1]? = some (.cells #[.int .i64 a4_0, .int .i64 a4_1, .bool a4_2, .bool a4_3] 30 (0, 0))) ∧ Aside0 (w'.heap[h4]? = some (.cells #[.int .i64 a7_0, .int .i64 a7_1] 28 (0, 0))) ∧ Aside0 (w'.heap[k2]? = some (.cells #[.int .i64 a8_0, .int .i64 a8_1, .bool a8_2, .bool a8_3] 30 (0, 0))) ∧ Aside0 (w'.heap[g9]? = some (.cells #[.int .i64 g5, .int .i64 g6, .bool g7, .bool g8] 30 (0, 0))) ∧ Aside0 (w'.heap[e3]? = some (.cells #[.int .i64 h8, .int .i64 h9, .bool i0, .bool i1] 30 (0, 0))) ∧ Aside0 (Below w.heap.size w w'))
 case atStart => exact ⟨(0), (1), sR, sR, H', ⟨Nat.le_refl _⟩, ⟨oS b5⟩, (bA a1), (bA a4), (bA a7), (bA b0), (bA a8), (bA b1), (bA b2), (bA b3), ⟨bB⟩⟩
 case round => (
 as_aux_lemma => (
 clear H'
 try clear J8
 try clear ae7
 try clear ae8
 try clear af1
 try clear af2
 try clear af3
 try clear af4
 try clear ae9
 try clear af0
 try clear af5
 try clear af6
 try clear af7
 try clear af8
 obtain ⟨b8, a3, rfl, rfl, HA, HK5, b5, a1, a4, a7, b0, a8, b1, b2, b3, HB⟩ := hrel
 cases gk with
 | zero => exact absurd HA.out (by simp [laws_FnBeamsGoOfAll.l0])
 | succ k5 => (
 have H := HA.out
 clear HA
 simp only [laws_FnBeamsGoOfAll.l0] at H
 by_cases F2 : a3 < (a0.length : Int)
 ·(
 rw [if_pos F2] at H
 have a61 : decide (a3 < (a0.length : Int)) = true := decide_eq_true F2
 clear F2
 obtain ⟨g3, J9⟩ : ∃ j_ : Int, (wrap64 (a3 - 1)) = j_ := ⟨_, rfl⟩
 (first | rw [J9] at H | simp only [J9] at H)
 have cv5 : (IntKind.i64.wrap (a3 - 1)) = g3 := (i64_w _).trans J9
 by_cases T2 : 0 ≤ (g3)
 ·(
 rw [if_pos T2] at H
 have b83 : decide (0 ≤ (g3)) = true := decide_eq_true T2
 clear T2
 by_cases T3 : (g3) < (a0.length : Int)
 ·(
 rw [if_pos T3] at H
 have b84 : decide ((g3) < (a0.length : Int)) = true := decide_eq_true T3
 clear T3
 by_cases T4 : 0 ≤ a3
 ·(
 rw [if_pos T4] at H
 have b85 : decide (0 ≤ a3) = true := decide_eq_true T4
 clear T4
 by_cases T5 : 0 < ((rd_L4 a0 a3).length : Int)
 ·(
 rw [if_pos T5] at H
 have b86 : decide (0 < ((rd_L4 a0 a3).length : Int)) = true := decide_eq_true T5
 have b87 : decide (0 < (rd_L4 a0 a3).length) = true := decide_eq_true (nl0 T5)
 clear T5
 by_cases T6 : 1 < ((rd_L4 a0 a3).length : Int)
 ·(
 rw [if_pos T6] at H
 have b88 : decide (1 < ((rd_L4 a0 a3).length : Int)) = true := decide_eq_true T6
 have b89 : decide (1 < (rd_L4 a0 a3).length) = true := decide_eq_true (nl1 T6)
 clear T6
 have T7 := Aside0.mk H
 clear H
 obtain ⟨h04, E1, bh4⟩ := Kd.S_slice b5.out
 subst bh4
 repeat (go_not_at_region 11; go_not_at_region 17; go_not_at_region 26; go_not_at_region 27; go_not_at_region 42; go_not_at_region 78; go_not_at_region 81; first | go_skip | go_guarded | go_step | go_upon)
 replace b5 := Aside0.mk (Kd.S_drew b5.out)
 replace a1 := bD1 a1
 replace a4 := bD1 a4
 replace a7 := bD1 a7
 replace b0 := bD1 b0
 replace a8 := bD1 a8
 replace b1 := bD1 b1
 replace b2 := bD1 b2
 replace b3 := bD1 b3
 replace HB := Aside0.mk (below_drew1 HB.out)
 have K0 : 0 ≤ ((g3) : Int) := of_decide_eq_true asm
 have K1 : (g3) < (a0.length : Int) := of_decide_eq_true (by first | exact b84 | exact asm)
 obtain ⟨l0, v9, b90, bl1, B6, O5, O6⟩ := at_L4 (Kd.S_reads' b5.out).2.2 (g3) K0 K1
 cases bl1
 obtain ⟨h05, b91, b92, a62⟩ := Kd.S_get b5.out [] (g3) K0 (by first | exact K1 | exact of_decide_eq_true asm | (have e_ := (Kd.S_reads' b5.out).1; omega))
 obtain ⟨cv6, rfl, F3⟩ := b92
 have x0 := a62 0 _ rfl
 rw [Nat.add_zero, show ((Kd.slice 3 (Kd.int .i64))).sz = 1 from rfl, Nat.mul_one] at x0
 replace x0 := Option.some.inj (x0.symm.trans B6)
 rw [x0] at F3
 have B7 := Aside0.mk (show Kd.R (Kd.int .i64) 3 _ _ _ _ (rd_L4 a0 (g3)) from F3)
 clear x0 F3 a62 b91
 have b4 := Aside0.mk O6
 have cv7 := Aside0.mk O5
 clear O6 O5
 replace K0 := eq_true K0
 replace K1 := eq_true K1
 have K2 : 0 ≤ (a3 : Int) := of_decide_eq_true asm
 have K3 : a3 < (a0.length : Int) := of_decide_eq_true (by first | exact a61 | exact asm)
 obtain ⟨bh5, b93, b94, bl2, B8, O7, O8⟩ := at_L4 (Kd.S_reads' b5.out).2.2 a3 K2 K3
 obtain rfl : l0 = bh5 := (by injection bl2)
 obtain ⟨h06, b95, b96, a63⟩ := Kd.S_get b5.out [] a3 K2 (by first | exact K3 | exact of_decide_eq_true asm | (have e_ := (Kd.S_reads' b5.out).1; omega))
 obtain ⟨cv8, rfl, F4⟩ := b96
 have x1 := a63 0 _ rfl
 rw [Nat.add_zero, show ((Kd.slice 3 (Kd.int .i64))).sz = 1 from rfl, Nat.mul_one] at x1
 replace x1 := Option.some.inj (x1.symm.trans B8)
 rw [x1] at F4
 have B9 := Aside0.mk (show Kd.R (Kd.int .i64) 3 _ _ _ _ (rd_L4 a0 a3) from F4)
 clear x1 F4 a63 b95
 have b7 := Aside0.mk O8
 have cv9 := Aside0.mk O7
 clear O8 O7
 replace K2 := eq_true K2
 replace K3 := eq_true K3
 as_aux_lemma => (
 refine st_ 11 laws_FnBeamsGoOfAll.pl11 (S := fun w' => w'.cell? (l0.add ((g3)).toNat) = some (.slice v9 (rd_L4 a0 (g3)).length b90) ∧ w'.cell? (l0.add (a3).toNat) = some (.slice b93 (rd_L4 a0 a3).length b94)) (ds := []) laws_FnBeamsGoOfAll.tab26 laws_FnBeamsGoOfAll.bits26 ⟨B6, B8⟩ (fun hHeld HT_ HW_ => ?_)
 generalize wr.drew = bl3 at b5 a1 a4 a7 b0 a8 b1 b2 b3 HB B7 B9 b4 b7 B6 B8 hHeld ⊢
 (try clear cz1); (try clear cz2); (try clear cz3); (try clear cz4); (try clear cz5); (try clear cz6); (try clear cz7); (try clear cz8); (try clear cz9); (try clear d00); (try clear d01); (try clear d02); (try clear d03); (try clear d04); (try clear ae7); (try clear ae8); (try clear ae9); (try clear af0); (try clear d05); (try clear d06); (try clear d07); (try clear d08); (try clear d09); (try clear d10); (try clear d11); (try clear d12); (try clear d13); (try clear d14); (try clear d15); (try clear d16); (try clear af1); (try clear af2); (try clear af3); (try clear af4); (try clear af5); (try clear af6); (try clear af7); (try clear af8)
 iterate 11 (first | refine rA HT_ ?_ | refine rT HT_ HW_ hHeld ?_)
 refine pD HT_ ?_
 repeat (go_not_at_region 11; go_not_at_region 17; go_not_at_region 26; go_not_at_region 27; go_not_at_region 42; go_not_at_region 78; go_not_at_region 81; first | go_skip | go_guarded | go_step | go_upon)
 (try rw [dSet])
 replace b5 := Aside0.mk (Kd.S_drew b5.out)
 replace B7 := Aside0.mk (Kd.R_drew B7.out)
 replace B9 := Aside0.mk (Kd.R_drew B9.out)
 replace a1 := bD1 a1
 replace a4 := bD1 a4
 replace a7 := bD1 a7
 replace b0 := bD1 b0
 replace a8 := bD1 a8
 replace b1 := bD1 b1
 replace b2 := bD1 b2
 replace b3 := bD1 b3
 replace b4 := Aside0.mk (Kd.C_drew b4.out)
 replace b7 := Aside0.mk (Kd.C_drew b7.out)
 replace HB := Aside0.mk (below_drew1 HB.out)
 have T8 : 0 ≤ (0 : Int) := (by decide)
 have T9 : 0 < ((rd_L4 a0 a3).length : Int) := of_decide_eq_true (by first | exact b86 | exact asm)
 obtain ⟨q8, bl4, x3⟩ := Kd.at_int (cR b7) 0 T8 T9
 cases bl4
 have h07 : (0 < (rd_L4 a0 a3).length) = True := eq_true (nl0 T9)
 (try rw [show ((0 : Int)).toNat = 0 from rfl] at x3)
 (try rw [Addr.add_zero'] at x3)
 replace T8 := eq_true T8
 replace T9 := eq_true T9
 have U0 : 0 ≤ (1 : Int) := (by decide)
 have U1 : 1 < ((rd_L4 a0 a3).length : Int) := of_decide_eq_true (by first | exact b88 | exact asm)
 obtain ⟨bh6, bl5, x4⟩ := Kd.at_int (cR b7) 1 U0 U1
 obtain rfl : q8 = bh6 := (by injection bl5)
 (try simp only [show (1 : Int).toNat = 1 from rfl, Nat.reduceMul, Nat.reduceEqDiff, Go.Addr.add, ↓reduceIte] at x4)
 have h08 : (1 < (rd_L4 a0 a3).length) = True := eq_true (nl1 U1)
 (try rw [show ((1 : Int)).toNat = 1 from rfl] at x4)
 replace U0 := eq_true U0
 replace U1 := eq_true U1
 as_aux_lemma => (
 refine st_ 8 laws_FnBeamsGoOfAll.pl12 (S := fun w' => w'.cell? q8 = some (.int .i64 (rd (rd_L4 a0 a3) 0)) ∧ w'.cell? ⟨q8.block, q8.off + 1, none⟩ = some (.int .i64 (rd (rd_L4 a0 a3) 1))) (ds := []) laws_FnBeamsGoOfAll.tab27 laws_FnBeamsGoOfAll.bits27 ⟨x3, x4⟩ (fun hHeld HT_ HW_ => ?_)
 generalize bl3.drew = h50 at b5 B7 B9 a1 a4 a7 b0 a8 b1 b2 b3 b4 b7 HB x3 x4 hHeld ⊢
 iterate 8 (first | refine rA HT_ ?_ | refine rT HT_ HW_ hHeld ?_)
 refine pD HT_ ?_
 repeat (go_not_at_region 28; first | go_skip | go_guarded | go_step | go_upon)
 go_cut [355] from 355 to 355 (fun bl6 wc => ∃ (kq : Nat) (y1 : Bool), bl6 = .bool y1 ∧ Aside0 (laws_FnBeamsGoOfAll.j5 kq a5 a6 a9 a0 n7 n8 l3 l9 l4 l7 d5 b8 a3 (rd (rd_L4 a0 a3) 0) (rd (rd_L4 a0 a3) 1) y1 a0_0 a0_1 a1_0 a1_1 a1_2 a1_3 a3_0 a3_1 a4_0 a4_1 a4_2 a4_3 a7_0 a7_1 a8_0 a8_1 a8_2 a8_3 g5 g6 g7 g8 = some r) ∧ Aside0 (kq ≤ k5) ∧ Aside0 (Kd.S (Kd.slice 3 (Kd.int .i64)) 40 wc w.heap.size (fun _ => True) (.slice (some l0) a0.length E1) a0) ∧ Aside0 (wc.heap[e9]? = some (.cells #[.int .i64 a0_0, .int .i64 a0_1] 28 (0, 0))) ∧ Aside0 (wc.heap[h2]? = some (.cells #[.int .i64 a1_0, .int .i64 a1_1, .bool a1_2, .bool a1_3] 30 (0, 0))) ∧ Aside0 (wc.heap[k0]? = some (.cells #[.int .i64 a3_0, .int .i64 a3_1] 28 (0, 0))) ∧ Aside0 (wc.heap[k1]? = some (.cells #[.int .i64 a4_0, .int .i64 a4_1, .bool a4_2, .bool a4_3] 30 (0, 0))) ∧ Aside0 (wc.heap[h4]? = some (.cells #[.int .i64 a7_0, .int .i64 a7_1] 28 (0, 0))) ∧ Aside0 (wc.heap[k2]? = some (.cells #[.int .i64 a8_0, .int .i64 a8_1, .bool a8_2, .bool a8_3] 30 (0, 0))) ∧ Aside0 (wc.heap[g9]? = some (.cells #[.int .i64 g5, .int .i64 g6, .bool g7, .bool g8] 30 (0, 0))) ∧ Aside0 (wc.heap[e3]? = some (.cells #[.int .i64 h8, .int .i64 h9, .bool i0, .bool i1] 30 (0, 0))) ∧ Aside0 (Kd.C (Kd.int .i64) wc v9 (rd_L4 a0 (g3)).length (rd_L4 a0 (g3))) ∧ Aside0 (Kd.C (Kd.int .i64) wc (some q8) (rd_L4 a0 a3).length (rd_L4 a0 a3)) ∧ Aside0 (Below w.heap.size w wc))
 case first => (
 as_aux_lemma => (
 have H := T7.out
 clear T7
 by_cases U2 : (rd (rd_L4 a0 a3) 0) < 0
 ·(
 rw [if_pos U2] at H
 exact absurd H (by cases k5 <;> simp [laws_FnBeamsGoOfAll.j5, HT_l.out])
 )
 rw [if_neg U2] at H
 have a64 : decide ((rd (rd_L4 a0 a3) 0) < 0) = false := decide_eq_false U2
 clear U2
 (first | rw [a64] | (simp only [i64_w, i32_w]; rw [a64]) | skip)
 by_cases U3 : (rd (rd_L4 a0 a3) 0) > a0_0
 ·(
 rw [if_pos U3] at H
 exact absurd H (by cases k5 <;> simp [laws_FnBeamsGoOfAll.j5, HT_l.out])
 )
 rw [if_neg U3] at H
 have d18 : decide (a0_0 < (rd (rd_L4 a0 a3) 0)) = false := decide_eq_false U3
 clear U3
 by_cases U4 : (rd (rd_L4 a0 a3) 1) < 0
 ·(
 rw [if_pos U4] at H
 exact absurd H (by cases k5 <;> simp [laws_FnBeamsGoOfAll.j5, HT_l.out])
 )
 rw [if_neg U4] at H
 have d19 : decide ((rd (rd_L4 a0 a3) 1) < 0) = false := decide_eq_false U4
 clear U4
 by_cases U5 : (rd (rd_L4 a0 a3) 1) > a0_1
 ·(
 rw [if_pos U5] at H
 exact absurd H (by cases k5 <;> simp [laws_FnBeamsGoOfAll.j5, HT_l.out])
 )
 rw [if_neg U5] at H
 have d20 : decide (a0_1 < (rd (rd_L4 a0 a3) 1)) = false := decide_eq_false U5
 clear U5
 by_cases U6 : 0 < ((rd_L4 a0 (g3)).length : Int)
 ·(
 rw [if_pos U6] at H
 have d21 : decide (0 < ((rd_L4 a0 (g3)).length : Int)) = true := decide_eq_true U6
 have d22 : decide (0 < (rd_L4 a0 (g3)).length) = true := decide_eq_true (nl0 U6)
 clear U6
 replace H := Option.bind_eq_some_iff.mp H; obtain ⟨b97, b16, H⟩ := H; (try dsimp only at H); have bl7 := Aside0.mk b16; clear b16
 by_cases U7 : b97 = 1
 ·(
 rw [if_pos U7] at H
 obtain ⟨d23, d24⟩ := yE U7
 clear U7
 by_cases U8 : 1 < ((rd_L4 a0 (g3)).length : Int)
 ·(
 rw [if_pos U8] at H
 have d25 : decide (1 < ((rd_L4 a0 (g3)).length : Int)) = true := decide_eq_true U8
 have d26 : decide (1 < (rd_L4 a0 (g3)).length) = true := decide_eq_true (nl1 U8)
 clear U8
 replace H := Option.bind_eq_some_iff.mp H; obtain ⟨b98, b17, H⟩ := H; (try dsimp only at H); have bl8 := Aside0.mk b17; clear b17
 have H' := Aside0.mk H
 clear H
 have d27 := d6.out
 have d28 := d7.out
 have d29 := d1.out
 have d30 := d2.out
 have d31 := d3.out
 have d32 := d4.out
 have d33 := c2.out
 have d34 := c3.out
 have d35 := c6.out
 have d36 := c7.out
 have d37 := d9.out
 have d38 := e0.out
 have d39 := e1.out
 have d40 := e2.out
 obtain ⟨bl9, bm0, bm1, bm2⟩ := cf2 a1
 have af9 : 0 ≤ (0 : Int) := (by decide)
 have ag0 : 0 < ((rd_L4 a0 (g3)).length : Int) := of_decide_eq_true (by first | exact d21 | exact asm)
 obtain ⟨bh7, bm3, O9⟩ := Kd.at_int (cR b4) 0 af9 ag0
 cases bm3
 have h09 : (0 < (rd_L4 a0 (g3)).length) = True := eq_true (nl0 ag0)
 (try rw [show ((0 : Int)).toNat = 0 from rfl] at O9)
 (try rw [Addr.add_zero'] at O9)
 replace af9 := eq_true af9
 replace ag0 := eq_true ag0
 repeat (go_not_at_region 11; go_not_at_region 17; go_not_at_region 26; go_not_at_region 27; go_not_at_region 42; go_not_at_region 78; go_not_at_region 81; first | (go_at_call 25; (with_reducible refine (laws_jSize.calls (wrap64 ((rd (rd_L4 a0 a3) 0) - (rd (rd_L4 a0 (g3)) 0))) b97 _ bl7.out).mono ?_); rintro e w' ⟨rfl, ⟨nd, rfl⟩⟩; dsimp only; have ag1 : 0 ≤ (1 : Int) := (by decide); have ag2 : 1 < ((rd_L4 a0 (g3)).length : Int) := of_decide_eq_true (by first | exact d25 | exact asm); obtain ⟨bh8, bm4, P0⟩ := Kd.at_int (cR b4) 1 ag1 ag2; obtain rfl : bh7 = bh8 := (by injection bm4); (try simp only [show (1 : Int).toNat = 1 from rfl, Nat.reduceMul, Nat.reduceEqDiff, Go.Addr.add, ↓reduceIte] at P0); have h10 : (1 < (rd_L4 a0 (g3)).length) = True := eq_true (nl1 ag2); (try rw [show ((1 : Int)).toNat = 1 from rfl] at P0); replace ag1 := eq_true ag1; replace ag2 := eq_true ag2) | (go_at_call 25; (with_reducible refine (laws_jSize.calls (wrap64 ((rd (rd_L4 a0 a3) 1) - (rd (rd_L4 a0 (g3)) 1))) b98 _ bl8.out).mono ?_); rintro e w' ⟨rfl, ⟨nd, rfl⟩⟩; dsimp only) | go_skip | go_guarded | go_step | go_upon)
 go_meet
 case rel => exact ⟨_, ((b98 != 1)), sR, H', ⟨laws_FnBeamsGoOfAll.jx⟩, ⟨oS b5⟩, (bA a1), (bA a4), (bA a7), (bA b0), (bA a8), (bA b1), (bA b2), (bA b3), ⟨cR b4⟩, ⟨cR b7⟩, ⟨bB⟩⟩
 )
 rw [if_neg U8] at H
 exact absurd H (by simp)
 )
 rw [if_neg U7] at H
 exact absurd H (by cases k5 <;> simp [laws_FnBeamsGoOfAll.j5, HT_l.out])
 )
 rw [if_neg U6] at H
 exact absurd H (by simp)
 )
 )
 clear T7
 try clear a61
 try clear b83
 try clear b84
 try clear b85
 try clear b86
 try clear b87
 try clear b88
 try clear b89
 try clear B6
 try clear B8
 try clear x3
 try clear x4
 try clear K0
 try clear K2
 try clear T8
 try clear U0
 try clear K1
 try clear K3
 try clear T9
 try clear U1
 obtain ⟨kq, y1, rfl, HA, HJ192, b5, a1, a4, a7, b0, a8, b1, b2, b3, b4, b7, HB⟩ := hcut
 cases kq with
 | zero => exact absurd HA.out (by simp [laws_FnBeamsGoOfAll.j5])
 | succ bh9 => (
 as_aux_lemma => (
 have H := HA.out
 clear HA
 simp only [laws_FnBeamsGoOfAll.j5] at H; (try simp only [J9] at H)
 by_cases U9 : y1 = true
 ·(
 subst U9
 rw [if_pos rfl] at H
 exact fy HT_l H
 )
 replace U9 := Bool.eq_false_iff.mpr U9
 subst U9
 rw [if_neg nft] at H
 have V0 := Aside0.mk H
 clear H
 repeat (go_not_at_region 30; first | go_skip | go_guarded | go_step | go_upon)
 go_cut [50] from 50 to 50 (fun v50 wc => ∃ (kq : Nat) (p8 : Bool), v50 = .bool p8 ∧ Aside0 (laws_FnBeamsGoOfAll.j6 kq a5 a6 a9 a0 n7 n8 l3 l9 l4 l7 d5 b8 a3 (rd (rd_L4 a0 a3) 0) (rd (rd_L4 a0 a3) 1) p8 a0_0 a0_1 a1_0 a1_1 a1_2 a1_3 a3_0 a3_1 a4_0 a4_1 a4_2 a4_3 a7_0 a7_1 a8_0 a8_1 a8_2 a8_3 g5 g6 g7 g8 = some r) ∧ Aside0 (kq ≤ bh9) ∧ Aside0 (Kd.S (Kd.slice 3 (Kd.int .i64)) 40 wc w.heap.size (fun _ => True) (.slice (some l0) a0.length E1) a0) ∧ Aside0 (wc.heap[e9]? = some (.cells #[.int .i64 a0_0, .int .i64 a0_1] 28 (0, 0))) ∧ Aside0 (wc.heap[h2]? = some (.cells #[.int .i64 a1_0, .int .i64 a1_1, .bool a1_2, .bool a1_3] 30 (0, 0))) ∧ Aside0 (wc.heap[k0]? = some (.cells #[.int .i64 a3_0, .int .i64 a3_1] 28 (0, 0))) ∧ Aside0 (wc.heap[k1]? = some (.cells #[.int .i64 a4_0, .int .i64 a4_1, .bool a4_2, .bool a4_3] 30 (0, 0))) ∧ Aside0 (wc.heap[h4]? = some (.cells #[.int .i64 a7_0, .int .i64 a7_1] 28 (0, 0))) ∧ Aside0 (wc.heap[k2]? = some (.cells #[.int .i64 a8_0, .int .i64 a8_1, .bool a8_2, .bool a8_3] 30 (0, 0))) ∧ Aside0 (wc.heap[g9]? = some (.cells #[.int .i64 g5, .int .i64 g6, .bool g7, .bool g8] 30 (0, 0))) ∧ Aside0 (wc.heap[e3]? = some (.cells #[.int .i64 h8, .int .i64 h9, .bool i0, .bool i1] 30 (0, 0))) ∧ Aside0 (Kd.C (Kd.int .i64) wc v9 (rd_L4 a0 (g3)).length (rd_L4 a0 (g3))) ∧ Aside0 (Kd.C (Kd.int .i64) wc (some q8) (rd_L4 a0 a3).length (rd_L4 a0 a3)) ∧ Aside0 (Below w.heap.size w wc))
 case first => (
 as_aux_lemma => (
 have H := V0.out
 clear V0
 by_cases K4 : (rd (rd_L4 a0 a3) 0) = 0
 ·(
 rw [if_pos K4] at H
 obtain ⟨z5, b99⟩ := yE K4
 clear K4
 (first | rw [z5] | (simp only [i64_w, i32_w]; rw [z5]) | skip)
 by_cases K5 : (rd (rd_L4 a0 a3) 1) = 0
 ·(
 rw [if_pos K5] at H
 obtain ⟨ba0, ba1⟩ := yE K5
 clear K5
 have H' := Aside0.mk H
 clear H
 repeat (go_not_at_region 11; go_not_at_region 17; go_not_at_region 26; go_not_at_region 27; go_not_at_region 42; go_not_at_region 78; go_not_at_region 81; first | go_skip | go_guarded | go_step | go_upon)
 go_meet
 case rel => exact ⟨_, (true), sR, H', ⟨laws_FnBeamsGoOfAll.jx⟩, ⟨oS b5⟩, (bA a1), (bA a4), (bA a7), (bA b0), (bA a8), (bA b1), (bA b2), (bA b3), ⟨cR b4⟩, ⟨cR b7⟩, ⟨bB⟩⟩
 )
 rw [if_neg K5] at H
 obtain ⟨ba0, ba1⟩ := nE K5
 have H' := Aside0.mk H
 clear H
 have d42 := d6.out
 have d43 := d7.out
 have d44 := d1.out
 have d45 := d2.out
 have d46 := d3.out
 have d47 := d4.out
 have d48 := c2.out
 have d49 := c3.out
 have d50 := c6.out
 have d51 := c7.out
 have d52 := d9.out
 have d53 := e0.out
 have d54 := e1.out
 have d55 := e2.out
 obtain ⟨bm5, bm6, bm7, bm8⟩ := cf2 a1
 repeat (go_not_at_region 11; go_not_at_region 17; go_not_at_region 26; go_not_at_region 27; go_not_at_region 42; go_not_at_region 78; go_not_at_region 81; first | go_skip | go_guarded | go_step | go_upon)
 go_meet
 case rel => exact ⟨_, (((rd (rd_L4 a0 a3) 1) == a0_1)), sR, H', ⟨laws_FnBeamsGoOfAll.jx⟩, ⟨oS b5⟩, (bA a1), (bA a4), (bA a7), (bA b0), (bA a8), (bA b1), (bA b2), (bA b3), ⟨cR b4⟩, ⟨cR b7⟩, ⟨bB⟩⟩
 )
 rw [if_neg K4] at H
 obtain ⟨z5, b99⟩ := nE K4
 (first | rw [z5] | (simp only [i64_w, i32_w]; rw [z5]) | skip)
 by_cases K6 : (rd (rd_L4 a0 a3) 0) = a0_0
 ·(
 rw [if_pos K6] at H
 obtain ⟨ba2, ba3⟩ := yE K6
 clear K6
 by_cases K7 : (rd (rd_L4 a0 a3) 1) = 0
 ·(
 rw [if_pos K7] at H
 obtain ⟨ba4, ba5⟩ := yE K7
 clear K7
 have H' := Aside0.mk H
 clear H
 have d56 := d6.out
 have d57 := d7.out
 have d58 := d1.out
 have d59 := d2.out
 have d60 := d3.out
 have d61 := d4.out
 have d62 := c2.out
 have d63 := c3.out
 have d64 := c6.out
 have d65 := c7.out
 have d66 := d9.out
 have d67 := e0.out
 have d68 := e1.out
 have d69 := e2.out
 obtain ⟨bm9, bn0, bn1, bn2⟩ := cf2 a1
 repeat (go_not_at_region 11; go_not_at_region 17; go_not_at_region 26; go_not_at_region 27; go_not_at_region 42; go_not_at_region 78; go_not_at_region 81; first | go_skip | go_guarded | go_step | go_upon)
 go_meet
 case rel => exact ⟨_, (true), sR, H', ⟨laws_FnBeamsGoOfAll.jx⟩, ⟨oS b5⟩, (bA a1), (bA a4), (bA a7), (bA b0), (bA a8), (bA b1), (bA b2), (bA b3), ⟨cR b4⟩, ⟨cR b7⟩, ⟨bB⟩⟩
 )
 rw [if_neg K7] at H
 obtain ⟨ba4, ba5⟩ := nE K7
 have H' := Aside0.mk H
 clear H
 have d70 := d6.out
 have d71 := d7.out
 have d72 := d1.out
 have d73 := d2.out
 have d74 := d3.out
 have d75 := d4.out
 have d76 := c2.out
 have d77 := c3.out
 have d78 := c6.out
 have d79 := c7.out
 have d80 := d9.out
 have d81 := e0.out
 have d82 := e1.out
 have d83 := e2.out
 obtain ⟨bn3, bn4, bn5, bn6⟩ := cf2 a1
 repeat (go_not_at_region 11; go_not_at_region 17; go_not_at_region 26; go_not_at_region 27; go_not_at_region 42; go_not_at_region 78; go_not_at_region 81; first | go_skip | go_guarded | go_step | go_upon)
 go_meet
 case rel => exact ⟨_, (((rd (rd_L4 a0 a3) 1) == a0_1)), sR, H', ⟨laws_FnBeamsGoOfAll.jx⟩, ⟨oS b5⟩, (bA a1), (bA a4), (bA a7), (bA b0), (bA a8), (bA b1), (bA b2), (bA b3), ⟨cR b4⟩, ⟨cR b7⟩, ⟨bB⟩⟩
 )
 rw [if_neg K6] at H
 obtain ⟨ba2, ba3⟩ := nE K6
 have H' := Aside0.mk H
 clear H
 have d84 := d6.out
 have d85 := d7.out
 have d86 := d1.out
 have d87 := d2.out
 have d88 := d3.out
 have d89 := d4.out
 have d90 := c2.out
 have d91 := c3.out
 have d92 := c6.out
 have d93 := c7.out
 have d94 := d9.out
 have d95 := e0.out
 have d96 := e1.out
 have d97 := e2.out
 obtain ⟨bn7, bn8, bn9, bo0⟩ := cf2 a1
 repeat (go_not_at_region 11; go_not_at_region 17; go_not_at_region 26; go_not_at_region 27; go_not_at_region 42; go_not_at_region 78; go_not_at_region 81; first | go_skip | go_guarded | go_step | go_upon)
 go_meet
 case rel => exact ⟨_, (false), sR, H', ⟨laws_FnBeamsGoOfAll.jx⟩, ⟨oS b5⟩, (bA a1), (bA a4), (bA a7), (bA b0), (bA a8), (bA b1), (bA b2), (bA b3), ⟨cR b4⟩, ⟨cR b7⟩, ⟨bB⟩⟩
 )
 )
 clear V0
 obtain ⟨kq, p8, rfl, HA, HJ214, b5, a1, a4, a7, b0, a8, b1, b2, b3, b4, b7, HB⟩ := hcut
 cases kq with
 | zero => exact absurd HA.out (by simp [laws_FnBeamsGoOfAll.j6])
 | succ bi0 => (
 as_aux_lemma => (
 have H := HA.out
 clear HA
 simp only [laws_FnBeamsGoOfAll.j6] at H; (try simp only [J9] at H)
 have V1 := Aside0.mk H
 clear H
 repeat (go_not_at_region 31; first | go_skip | go_guarded | go_step | go_upon)
 go_cut [381] from 381 to 381 (fun bo1 wc => ∃ (kq : Nat) (y2 : Bool), bo1 = .bool y2 ∧ Aside0 (laws_FnBeamsGoOfAll.j7 kq a5 a6 a9 a0 n7 n8 l3 l9 l4 l7 d5 b8 a3 (rd (rd_L4 a0 a3) 0) (rd (rd_L4 a0 a3) 1) p8 y2 a0_0 a0_1 a1_0 a1_1 a1_2 a1_3 a3_0 a3_1 a4_0 a4_1 a4_2 a4_3 a7_0 a7_1 a8_0 a8_1 a8_2 a8_3 g5 g6 g7 g8 = some r) ∧ Aside0 (kq ≤ bi0) ∧ Aside0 (Kd.S (Kd.slice 3 (Kd.int .i64)) 40 wc w.heap.size (fun _ => True) (.slice (some l0) a0.length E1) a0) ∧ Aside0 (wc.heap[e9]? = some (.cells #[.int .i64 a0_0, .int .i64 a0_1] 28 (0, 0))) ∧ Aside0 (wc.heap[h2]? = some (.cells #[.int .i64 a1_0, .int .i64 a1_1, .bool a1_2, .bool a1_3] 30 (0, 0))) ∧ Aside0 (wc.heap[k0]? = some (.cells #[.int .i64 a3_0, .int .i64 a3_1] 28 (0, 0))) ∧ Aside0 (wc.heap[k1]? = some (.cells #[.int .i64 a4_0, .int .i64 a4_1, .bool a4_2, .bool a4_3] 30 (0, 0))) ∧ Aside0 (wc.heap[h4]? = some (.cells #[.int .i64 a7_0, .int .i64 a7_1] 28 (0, 0))) ∧ Aside0 (wc.heap[k2]? = some (.cells #[.int .i64 a8_0, .int .i64 a8_1, .bool a8_2, .bool a8_3] 30 (0, 0))) ∧ Aside0 (wc.heap[g9]? = some (.cells #[.int .i64 g5, .int .i64 g6, .bool g7, .bool g8] 30 (0, 0))) ∧ Aside0 (wc.heap[e3]? = some (.cells #[.int .i64 h8, .int .i64 h9, .bool i0, .bool i1] 30 (0, 0))) ∧ Aside0 (Kd.C (Kd.int .i64) wc v9 (rd_L4 a0 (g3)).length (rd_L4 a0 (g3))) ∧ Aside0 (Kd.C (Kd.int .i64) wc (some q8) (rd_L4 a0 a3).length (rd_L4 a0 a3)) ∧ Aside0 (Below w.heap.size w wc))
 case first => (
 as_aux_lemma => (
 have H := V1.out
 clear V1
 by_cases V2 : n8 = true
 ·(
 subst V2
 rw [if_pos rfl] at H
 have H' := Aside0.mk H
 clear H
 repeat (go_not_at_region 11; go_not_at_region 17; go_not_at_region 26; go_not_at_region 27; go_not_at_region 42; go_not_at_region 78; go_not_at_region 81; first | go_skip | go_guarded | go_step | go_upon)
 go_meet
 case rel => exact ⟨_, ((p8 != (a3 == n7))), sR, H', ⟨laws_FnBeamsGoOfAll.jx⟩, ⟨oS b5⟩, (bA a1), (bA a4), (bA a7), (bA b0), (bA a8), (bA b1), (bA b2), (bA b3), ⟨cR b4⟩, ⟨cR b7⟩, ⟨bB⟩⟩
 )
 replace V2 := Bool.eq_false_iff.mpr V2
 subst V2
 rw [if_neg nft] at H
 have H' := Aside0.mk H
 clear H
 repeat (go_not_at_region 11; go_not_at_region 17; go_not_at_region 26; go_not_at_region 27; go_not_at_region 42; go_not_at_region 78; go_not_at_region 81; first | go_skip | go_guarded | go_step | go_upon)
 go_meet
 case rel => exact ⟨_, ((p8 != false)), sR, H', ⟨laws_FnBeamsGoOfAll.jx⟩, ⟨oS b5⟩, (bA a1), (bA a4), (bA a7), (bA b0), (bA a8), (bA b1), (bA b2), (bA b3), ⟨cR b4⟩, ⟨cR b7⟩, ⟨bB⟩⟩
 )
 )
 clear V1
 obtain ⟨kq, y2, rfl, HA, HJ251, b5, a1, a4, a7, b0, a8, b1, b2, b3, b4, b7, HB⟩ := hcut
 cases kq with
 | zero => exact absurd HA.out (by simp [laws_FnBeamsGoOfAll.j7])
 | succ bi1 => (
 as_aux_lemma => (
 have H := HA.out
 clear HA
 simp only [laws_FnBeamsGoOfAll.j7] at H; (try simp only [J9] at H)
 by_cases V3 : y2 = true
 ·(
 subst V3
 rw [if_pos rfl] at H
 exact fy HT_l H
 )
 replace V3 := Bool.eq_false_iff.mpr V3
 subst V3
 rw [if_neg nft] at H
 have V4 := Aside0.mk H
 clear H
 repeat (go_not_at_region 33; first | go_skip | go_guarded | go_step | go_upon)
 go_cut [403] from 403 to 403 (fun ba6 wc => ∃ (kq : Nat) (y3 : Bool), ba6 = .bool y3 ∧ Aside0 (laws_FnBeamsGoOfAll.j8 kq a5 a6 a9 a0 n7 n8 l3 l9 l4 l7 d5 b8 a3 (rd (rd_L4 a0 a3) 0) (rd (rd_L4 a0 a3) 1) y3 a0_0 a0_1 a1_0 a1_1 a1_2 a1_3 a3_0 a3_1 a4_0 a4_1 a4_2 a4_3 a7_0 a7_1 a8_0 a8_1 a8_2 a8_3 g5 g6 g7 g8 = some r) ∧ Aside0 (kq ≤ bi1) ∧ Aside0 (Kd.S (Kd.slice 3 (Kd.int .i64)) 40 wc w.heap.size (fun _ => True) (.slice (some l0) a0.length E1) a0) ∧ Aside0 (wc.heap[e9]? = some (.cells #[.int .i64 a0_0, .int .i64 a0_1] 28 (0, 0))) ∧ Aside0 (wc.heap[h2]? = some (.cells #[.int .i64 a1_0, .int .i64 a1_1, .bool a1_2, .bool a1_3] 30 (0, 0))) ∧ Aside0 (wc.heap[k0]? = some (.cells #[.int .i64 a3_0, .int .i64 a3_1] 28 (0, 0))) ∧ Aside0 (wc.heap[k1]? = some (.cells #[.int .i64 a4_0, .int .i64 a4_1, .bool a4_2, .bool a4_3] 30 (0, 0))) ∧ Aside0 (wc.heap[h4]? = some (.cells #[.int .i64 a7_0, .int .i64 a7_1] 28 (0, 0))) ∧ Aside0 (wc.heap[k2]? = some (.cells #[.int .i64 a8_0, .int .i64 a8_1, .bool a8_2, .bool a8_3] 30 (0, 0))) ∧ Aside0 (wc.heap[g9]? = some (.cells #[.int .i64 g5, .int .i64 g6, .bool g7, .bool g8] 30 (0, 0))) ∧ Aside0 (wc.heap[e3]? = some (.cells #[.int .i64 h8, .int .i64 h9, .bool i0, .bool i1] 30 (0, 0))) ∧ Aside0 (Kd.C (Kd.int .i64) wc v9 (rd_L4 a0 (g3)).length (rd_L4 a0 (g3))) ∧ Aside0 (Kd.C (Kd.int .i64) wc (some q8) (rd_L4 a0 a3).length (rd_L4 a0 a3)) ∧ Aside0 (Below w.heap.size w wc))
 case first => (
 as_aux_lemma => (
 have H := V4.out
 clear V4
 by_cases V5 : p8 = true
 ·(
 subst V5
 rw [if_pos rfl] at H
 have H' := Aside0.mk H
 clear H
 repeat (go_not_at_region 11; go_not_at_region 17; go_not_at_region 26; go_not_at_region 27; go_not_at_region 42; go_not_at_region 78; go_not_at_region 81; first | go_skip | go_guarded | go_step | go_upon)
 go_meet
 case rel => exact ⟨_, (false), sR, H', ⟨laws_FnBeamsGoOfAll.jx⟩, ⟨oS b5⟩, (bA a1), (bA a4), (bA a7), (bA b0), (bA a8), (bA b1), (bA b2), (bA b3), ⟨cR b4⟩, ⟨cR b7⟩, ⟨bB⟩⟩
 )
 replace V5 := Bool.eq_false_iff.mpr V5
 subst V5
 rw [if_neg nft] at H
 by_cases K8 : (rd (rd_L4 a0 a3) 0) = 0
 ·(
 rw [if_pos K8] at H
 obtain ⟨z6, ba7⟩ := yE K8
 clear K8
 (first | rw [z6] | (simp only [i64_w, i32_w]; rw [z6]) | skip)
 have H' := Aside0.mk H
 clear H
 repeat (go_not_at_region 11; go_not_at_region 17; go_not_at_region 26; go_not_at_region 27; go_not_at_region 42; go_not_at_region 78; go_not_at_region 81; first | go_skip | go_guarded | go_step | go_upon)
 go_meet
 case rel => exact ⟨_, (true), sR, H', ⟨laws_FnBeamsGoOfAll.jx⟩, ⟨oS b5⟩, (bA a1), (bA a4), (bA a7), (bA b0), (bA a8), (bA b1), (bA b2), (bA b3), ⟨cR b4⟩, ⟨cR b7⟩, ⟨bB⟩⟩
 )
 rw [if_neg K8] at H
 obtain ⟨z6, ba7⟩ := nE K8
 (first | rw [z6] | (simp only [i64_w, i32_w]; rw [z6]) | skip)
 by_cases K9 : (rd (rd_L4 a0 a3) 0) = a0_0
 ·(
 rw [if_pos K9] at H
 obtain ⟨ba8, ba9⟩ := yE K9
 clear K9
 have H' := Aside0.mk H
 clear H
 have d98 := d6.out
 have d99 := d7.out
 have da0 := d1.out
 have da1 := d2.out
 have da2 := d3.out
 have da3 := d4.out
 have da4 := c2.out
 have da5 := c3.out
 have da6 := c6.out
 have da7 := c7.out
 have da8 := d9.out
 have da9 := e0.out
 have db0 := e1.out
 have db1 := e2.out
 obtain ⟨bo2, bo3, bo4, bo5⟩ := cf2 a1
 repeat (go_not_at_region 11; go_not_at_region 17; go_not_at_region 26; go_not_at_region 27; go_not_at_region 42; go_not_at_region 78; go_not_at_region 81; first | go_skip | go_guarded | go_step | go_upon)
 go_meet
 case rel => exact ⟨_, (true), sR, H', ⟨laws_FnBeamsGoOfAll.jx⟩, ⟨oS b5⟩, (bA a1), (bA a4), (bA a7), (bA b0), (bA a8), (bA b1), (bA b2), (bA b3), ⟨cR b4⟩, ⟨cR b7⟩, ⟨bB⟩⟩
 )
 rw [if_neg K9] at H
 obtain ⟨ba8, ba9⟩ := nE K9
 by_cases L0 : (rd (rd_L4 a0 a3) 1) = 0
 ·(
 rw [if_pos L0] at H
 obtain ⟨bb0, bb1⟩ := yE L0
 clear L0
 have H' := Aside0.mk H
 clear H
 have db2 := d6.out
 have db3 := d7.out
 have db4 := d1.out
 have db5 := d2.out
 have db6 := d3.out
 have db7 := d4.out
 have db8 := c2.out
 have db9 := c3.out
 have dc0 := c6.out
 have dc1 := c7.out
 have dc2 := d9.out
 have dc3 := e0.out
 have dc4 := e1.out
 have dc5 := e2.out
 obtain ⟨bo6, bo7, bo8, bo9⟩ := cf2 a1
 repeat (go_not_at_region 11; go_not_at_region 17; go_not_at_region 26; go_not_at_region 27; go_not_at_region 42; go_not_at_region 78; go_not_at_region 81; first | go_skip | go_guarded | go_step | go_upon)
 go_meet
 case rel => exact ⟨_, (true), sR, H', ⟨laws_FnBeamsGoOfAll.jx⟩, ⟨oS b5⟩, (bA a1), (bA a4), (bA a7), (bA b0), (bA a8), (bA b1), (bA b2), (bA b3), ⟨cR b4⟩, ⟨cR b7⟩, ⟨bB⟩⟩
 )
 rw [if_neg L0] at H
 obtain ⟨bb0, bb1⟩ := nE L0
 have H' := Aside0.mk H
 clear H
 have dc6 := d6.out
 have dc7 := d7.out
 have dc8 := d1.out
 have dc9 := d2.out
 have dd0 := d3.out
 have dd1 := d4.out
 have dd2 := c2.out
 have dd3 := c3.out
 have dd4 := c6.out
 have dd5 := c7.out
 have dd6 := d9.out
 have dd7 := e0.out
 have dd8 := e1.out
 have dd9 := e2.out
 obtain ⟨bp0, bp1, bp2, bp3⟩ := cf2 a1
 repeat (go_not_at_region 11; go_not_at_region 17; go_not_at_region 26; go_not_at_region 27; go_not_at_region 42; go_not_at_region 78; go_not_at_region 81; first | go_skip | go_guarded | go_step | go_upon)
 go_meet
 case rel => exact ⟨_, (((rd (rd_L4 a0 a3) 1) == a0_1)), sR, H', ⟨laws_FnBeamsGoOfAll.jx⟩, ⟨oS b5⟩, (bA a1), (bA a4), (bA a7), (bA b0), (bA a8), (bA b1), (bA b2), (bA b3), ⟨cR b4⟩, ⟨cR b7⟩, ⟨bB⟩⟩
 )
 )
 clear V4
 obtain ⟨kq, y3, rfl, HA, HJ254, b5, a1, a4, a7, b0, a8, b1, b2, b3, b4, b7, HB⟩ := hcut
 cases kq with
 | zero => exact absurd HA.out (by simp [laws_FnBeamsGoOfAll.j8])
 | succ bi2 => (
 as_aux_lemma => (
 have H := HA.out
 clear HA
 simp only [laws_FnBeamsGoOfAll.j8] at H; (try simp only [J9] at H)
 have V6 := Aside0.mk H
 clear H
 repeat (go_not_at_if 403; first | go_skip | go_guarded | go_step | go_upon)
 go_cut [44, 403] from 44 to 44 (fun v44 ba6 wc => ∃ (kq : Nat) (j7 : Int), v44 = .int .i64 j7 ∧ Aside0 (laws_FnBeamsGoOfAll.j9 kq a5 a6 a9 a0 n7 n8 l3 l9 l4 l7 d5 j7 a3 (rd (rd_L4 a0 a3) 0) (rd (rd_L4 a0 a3) 1) a0_0 a0_1 a1_0 a1_1 a1_2 a1_3 a3_0 a3_1 a4_0 a4_1 a4_2 a4_3 a7_0 a7_1 a8_0 a8_1 a8_2 a8_3 g5 g6 g7 g8 = some r) ∧ Aside0 (kq ≤ bi2) ∧ Aside0 (Kd.S (Kd.slice 3 (Kd.int .i64)) 40 wc w.heap.size (fun _ => True) (.slice (some l0) a0.length E1) a0) ∧ Aside0 (wc.heap[e9]? = some (.cells #[.int .i64 a0_0, .int .i64 a0_1] 28 (0, 0))) ∧ Aside0 (wc.heap[h2]? = some (.cells #[.int .i64 a1_0, .int .i64 a1_1, .bool a1_2, .bool a1_3] 30 (0, 0))) ∧ Aside0 (wc.heap[k0]? = some (.cells #[.int .i64 a3_0, .int .i64 a3_1] 28 (0, 0))) ∧ Aside0 (wc.heap[k1]? = some (.cells #[.int .i64 a4_0, .int .i64 a4_1, .bool a4_2, .bool a4_3] 30 (0, 0))) ∧ Aside0 (wc.heap[h4]? = some (.cells #[.int .i64 a7_0, .int .i64 a7_1] 28 (0, 0))) ∧ Aside0 (wc.heap[k2]? = some (.cells #[.int .i64 a8_0, .int .i64 a8_1, .bool a8_2, .bool a8_3] 30 (0, 0))) ∧ Aside0 (wc.heap[g9]? = some (.cells #[.int .i64 g5, .int .i64 g6, .bool g7, .bool g8] 30 (0, 0))) ∧ Aside0 (wc.heap[e3]? = some (.cells #[.int .i64 h8, .int .i64 h9, .bool i0, .bool i1] 30 (0, 0))) ∧ Aside0 (Kd.C (Kd.int .i64) wc v9 (rd_L4 a0 (g3)).length (rd_L4 a0 (g3))) ∧ Aside0 (Kd.C (Kd.int .i64) wc (some q8) (rd_L4 a0 a3).length (rd_L4 a0 a3)) ∧ Aside0 (Below w.heap.size w wc))
 case first => (
 as_aux_lemma => (
 have H := V6.out
 clear V6
 by_cases V7 : y3 = true
 ·(
 subst V7
 rw [if_pos rfl] at H
 by_cases V8 : b8 ≥ (d5.size : Int)
 ·(
 rw [if_pos V8] at H
 exact fy HT_l H
 )
 rw [if_neg V8] at H
 have a65 : decide ((d5.size : Int) ≤ b8) = false := decide_eq_false V8
 clear V8
 (first | rw [a65] | (simp only [i64_w, i32_w]; rw [a65]) | skip)
 by_cases V9 : 0 ≤ b8
 ·(
 rw [if_pos V9] at H
 have de0 : decide (0 ≤ b8) = true := decide_eq_true V9
 clear V9
 by_cases X0 : b8 < (d5.size : Int)
 ·(
 rw [if_pos X0] at H
 have de1 : decide (b8 < (d5.size : Int)) = true := decide_eq_true X0
 clear X0
 by_cases L1 : (bt d5 b8) = 114
 ·(
 rw [if_pos L1] at H
 obtain ⟨bb2, bb3⟩ := yE L1
 clear L1
 by_cases X1 : (rd (rd_L4 a0 a3) 0) = a0_0
 ·(
 rw [if_pos X1] at H
 obtain ⟨de2, de3⟩ := yE X1
 clear X1
 by_cases L2 : (bt d5 b8) = 108
 ·(
 rw [if_pos L2] at H
 obtain ⟨bb4, bb5⟩ := yE L2
 clear L2
 by_cases X2 : (rd (rd_L4 a0 a3) 0) = 0
 ·(
 rw [if_pos X2] at H
 obtain ⟨de4, de5⟩ := yE X2
 clear X2
 by_cases L3 : (bt d5 b8) = 117
 ·(
 rw [if_pos L3] at H
 obtain ⟨bb6, bb7⟩ := yE L3
 clear L3
 by_cases X3 : (rd (rd_L4 a0 a3) 1) = a0_1
 ·(
 rw [if_pos X3] at H
 obtain ⟨de6, de7⟩ := yE X3
 clear X3
 by_cases L4 : (bt d5 b8) = 100
 ·(
 rw [if_pos L4] at H
 obtain ⟨bb8, bb9⟩ := yE L4
 clear L4
 by_cases X4 : (rd (rd_L4 a0 a3) 1) = 0
 ·(
 rw [if_pos X4] at H
 obtain ⟨de8, de9⟩ := yE X4
 clear X4
 have H' := Aside0.mk H
 clear H
 have e5 : 0 ≤ (b8 : Int) := of_decide_eq_true asm
 have e6 : b8 < (d5.size : Int) := of_decide_eq_true (by first | exact de1 | exact asm)
 have l8 := bt_at d5 b8
 replace e5 := eq_true e5
 replace e6 := eq_true e6
 have df0 := d6.out
 have df1 := d7.out
 have df2 := d1.out
 have df3 := d2.out
 have df4 := d3.out
 have df5 := d4.out
 have df6 := c2.out
 have df7 := c3.out
 have df8 := c6.out
 have df9 := c7.out
 have dg0 := d9.out
 have dg1 := e0.out
 have dg2 := e1.out
 have dg3 := e2.out
 obtain ⟨bp4, bp5, bp6, bp7⟩ := cf2 a1
 repeat (go_not_at_region 11; go_not_at_region 17; go_not_at_region 26; go_not_at_region 27; go_not_at_region 42; go_not_at_region 78; go_not_at_region 81; first | go_skip | go_guarded | go_step | go_upon)
 go_meet
 case rel => exact ⟨_, (wrap64 (b8 + 1)), sR, H', ⟨laws_FnBeamsGoOfAll.jx⟩, ⟨oS b5⟩, (bA a1), (bA a4), (bA a7), (bA b0), (bA a8), (bA b1), (bA b2), (bA b3), ⟨cR b4⟩, ⟨cR b7⟩, ⟨bB⟩⟩
 )
 rw [if_neg X4] at H
 exact fy HT_l H
 )
 rw [if_neg L4] at H
 obtain ⟨bb8, bb9⟩ := nE L4
 have H' := Aside0.mk H
 clear H
 have e5 : 0 ≤ (b8 : Int) := of_decide_eq_true asm
 have e6 : b8 < (d5.size : Int) := of_decide_eq_true (by first | exact de1 | exact asm)
 have l8 := bt_at d5 b8
 replace e5 := eq_true e5
 replace e6 := eq_true e6
 have dg4 := d6.out
 have dg5 := d7.out
 have dg6 := d1.out
 have dg7 := d2.out
 have dg8 := d3.out
 have dg9 := d4.out
 have dh0 := c2.out
 have dh1 := c3.out
 have dh2 := c6.out
 have dh3 := c7.out
 have dh4 := d9.out
 have dh5 := e0.out
 have dh6 := e1.out
 have dh7 := e2.out
 obtain ⟨bp8, bp9, bq0, bq1⟩ := cf2 a1
 repeat (go_not_at_region 11; go_not_at_region 17; go_not_at_region 26; go_not_at_region 27; go_not_at_region 42; go_not_at_region 78; go_not_at_region 81; first | go_skip | go_guarded | go_step | go_upon)
 go_meet
 case rel => exact ⟨_, (wrap64 (b8 + 1)), sR, H', ⟨laws_FnBeamsGoOfAll.jx⟩, ⟨oS b5⟩, (bA a1), (bA a4), (bA a7), (bA b0), (bA a8), (bA b1), (bA b2), (bA b3), ⟨cR b4⟩, ⟨cR b7⟩, ⟨bB⟩⟩
 )
 rw [if_neg X3] at H
 exact fy HT_l H
 )
 rw [if_neg L3] at H
 obtain ⟨bb6, bb7⟩ := nE L3
 by_cases L5 : (bt d5 b8) = 100
 ·(
 rw [if_pos L5] at H
 obtain ⟨bc0, bc1⟩ := yE L5
 clear L5
 by_cases X5 : (rd (rd_L4 a0 a3) 1) = 0
 ·(
 rw [if_pos X5] at H
 obtain ⟨dh8, dh9⟩ := yE X5
 clear X5
 have H' := Aside0.mk H
 clear H
 have e5 : 0 ≤ (b8 : Int) := of_decide_eq_true asm
 have e6 : b8 < (d5.size : Int) := of_decide_eq_true (by first | exact de1 | exact asm)
 have l8 := bt_at d5 b8
 replace e5 := eq_true e5
 replace e6 := eq_true e6
 have di0 := d6.out
 have di1 := d7.out
 have di2 := d1.out
 have di3 := d2.out
 have di4 := d3.out
 have di5 := d4.out
 have di6 := c2.out
 have di7 := c3.out
 have di8 := c6.out
 have di9 := c7.out
 have dj0 := d9.out
 have dj1 := e0.out
 have dj2 := e1.out
 have dj3 := e2.out
 obtain ⟨bq2, bq3, bq4, bq5⟩ := cf2 a1
 repeat (go_not_at_region 11; go_not_at_region 17; go_not_at_region 26; go_not_at_region 27; go_not_at_region 42; go_not_at_region 78; go_not_at_region 81; first | go_skip | go_guarded | go_step | go_upon)
 go_meet
 case rel => exact ⟨_, (wrap64 (b8 + 1)), sR, H', ⟨laws_FnBeamsGoOfAll.jx⟩, ⟨oS b5⟩, (bA a1), (bA a4), (bA a7), (bA b0), (bA a8), (bA b1), (bA b2), (bA b3), ⟨cR b4⟩, ⟨cR b7⟩, ⟨bB⟩⟩
 )
 rw [if_neg X5] at H
 exact fy HT_l H
 )
 rw [if_neg L5] at H
 obtain ⟨bc0, bc1⟩ := nE L5
 have H' := Aside0.mk H
 clear H
 have e5 : 0 ≤ (b8 : Int) := of_decide_eq_true asm
 have e6 : b8 < (d5.size : Int) := of_decide_eq_true (by first | exact de1 | exact asm)
 have l8 := bt_at d5 b8
 replace e5 := eq_true e5
 replace e6 := eq_true e6
 have dj4 := d6.out
 have dj5 := d7.out
 have dj6 := d1.out
 have dj7 := d2.out
 have dj8 := d3.out
 have dj9 := d4.out
 have dk0 := c2.out
 have dk1 := c3.out
 have dk2 := c6.out
 have dk3 := c7.out
 have dk4 := d9.out
 have dk5 := e0.out
 have dk6 := e1.out
 have dk7 := e2.out
 obtain ⟨bq6, bq7, bq8, bq9⟩ := cf2 a1
 repeat (go_not_at_region 11; go_not_at_region 17; go_not_at_region 26; go_not_at_region 27; go_not_at_region 42; go_not_at_region 78; go_not_at_region 81; first | go_skip | go_guarded | go_step | go_upon)
 go_meet
 case rel => exact ⟨_, (wrap64 (b8 + 1)), sR, H', ⟨laws_FnBeamsGoOfAll.jx⟩, ⟨oS b5⟩, (bA a1), (bA a4), (bA a7), (bA b0), (bA a8), (bA b1), (bA b2), (bA b3), ⟨cR b4⟩, ⟨cR b7⟩, ⟨bB⟩⟩
 )
 rw [if_neg X2] at H
 exact fy HT_l H
 )
 rw [if_neg L2] at H
 obtain ⟨bb4, bb5⟩ := nE L2
 by_cases L6 : (bt d5 b8) = 117
 ·(
 rw [if_pos L6] at H
 obtain ⟨bc2, bc3⟩ := yE L6
 clear L6
 by_cases X6 : (rd (rd_L4 a0 a3) 1) = a0_1
 ·(
 rw [if_pos X6] at H
 obtain ⟨dk8, dk9⟩ := yE X6
 clear X6
 by_cases L7 : (bt d5 b8) = 100
 ·(
 rw [if_pos L7] at H
 obtain ⟨bc4, bc5⟩ := yE L7
 clear L7
 by_cases X7 : (rd (rd_L4 a0 a3) 1) = 0
 ·(
 rw [if_pos X7] at H
 obtain ⟨dl0, dl1⟩ := yE X7
 clear X7
 have H' := Aside0.mk H
 clear H
 have e5 : 0 ≤ (b8 : Int) := of_decide_eq_true asm
 have e6 : b8 < (d5.size : Int) := of_decide_eq_true (by first | exact de1 | exact asm)
 have l8 := bt_at d5 b8
 replace e5 := eq_true e5
 replace e6 := eq_true e6
 have dl2 := d6.out
 have dl3 := d7.out
 have dl4 := d1.out
 have dl5 := d2.out
 have dl6 := d3.out
 have dl7 := d4.out
 have dl8 := c2.out
 have dl9 := c3.out
 have dm0 := c6.out
 have dm1 := c7.out
 have dm2 := d9.out
 have dm3 := e0.out
 have dm4 := e1.out
 have dm5 := e2.out
 obtain ⟨br0, br1, br2, br3⟩ := cf2 a1
 repeat (go_not_at_region 11; go_not_at_region 17; go_not_at_region 26; go_not_at_region 27; go_not_at_region 42; go_not_at_region 78; go_not_at_region 81; first | go_skip | go_guarded | go_step | go_upon)
 go_meet
 case rel => exact ⟨_, (wrap64 (b8 + 1)), sR, H', ⟨laws_FnBeamsGoOfAll.jx⟩, ⟨oS b5⟩, (bA a1), (bA a4), (bA a7), (bA b0), (bA a8), (bA b1), (bA b2), (bA b3), ⟨cR b4⟩, ⟨cR b7⟩, ⟨bB⟩⟩
 )
 rw [if_neg X7] at H
 exact fy HT_l H
 )
 rw [if_neg L7] at H
 obtain ⟨bc4, bc5⟩ := nE L7
 have H' := Aside0.mk H
 clear H
 have e5 : 0 ≤ (b8 : Int) := of_decide_eq_true asm
 have e6 : b8 < (d5.size : Int) := of_decide_eq_true (by first | exact de1 | exact asm)
 have l8 := bt_at d5 b8
 replace e5 := eq_true e5
 replace e6 := eq_true e6
 have dm6 := d6.out
 have dm7 := d7.out
 have dm8 := d1.out
 have dm9 := d2.out
 have dn0 := d3.out
 have dn1 := d4.out
 have dn2 := c2.out
 have dn3 := c3.out
 have dn4 := c6.out
 have dn5 := c7.out
 have dn6 := d9.out
 have dn7 := e0.out
 have dn8 := e1.out
 have dn9 := e2.out
 obtain ⟨br4, br5, br6, br7⟩ := cf2 a1
 repeat (go_not_at_region 11; go_not_at_region 17; go_not_at_region 26; go_not_at_region 27; go_not_at_region 42; go_not_at_region 78; go_not_at_region 81; first | go_skip | go_guarded | go_step | go_upon)
 go_meet
 case rel => exact ⟨_, (wrap64 (b8 + 1)), sR, H', ⟨laws_FnBeamsGoOfAll.jx⟩, ⟨oS b5⟩, (bA a1), (bA a4), (bA a7), (bA b0), (bA a8), (bA b1), (bA b2), (bA b3), ⟨cR b4⟩, ⟨cR b7⟩, ⟨bB⟩⟩
 )
 rw [if_neg X6] at H
 exact fy HT_l H
 )
 rw [if_neg L6] at H
 obtain ⟨bc2, bc3⟩ := nE L6
 by_cases L8 : (bt d5 b8) = 100
 ·(
 rw [if_pos L8] at H
 obtain ⟨bc6, bc7⟩ := yE L8
 clear L8
 by_cases X8 : (rd (rd_L4 a0 a3) 1) = 0
 ·(
 rw [if_pos X8] at H
 obtain ⟨do0, do1⟩ := yE X8
 clear X8
 have H' := Aside0.mk H
 clear H
 have e5 : 0 ≤ (b8 : Int) := of_decide_eq_true asm
 have e6 : b8 < (d5.size : Int) := of_decide_eq_true (by first | exact de1 | exact asm)
 have l8 := bt_at d5 b8
 replace e5 := eq_true e5
 replace e6 := eq_true e6
 have do2 := d6.out
 have do3 := d7.out
 have do4 := d1.out
 have do5 := d2.out
 have do6 := d3.out
 have do7 := d4.out
 have do8 := c2.out
 have do9 := c3.out
 have dp0 := c6.out
 have dp1 := c7.out
 have dp2 := d9.out
 have dp3 := e0.out
 have dp4 := e1.out
 have dp5 := e2.out
 obtain ⟨br8, br9, bs0, bs1⟩ := cf2 a1
 repeat (go_not_at_region 11; go_not_at_region 17; go_not_at_region 26; go_not_at_region 27; go_not_at_region 42; go_not_at_region 78; go_not_at_region 81; first | go_skip | go_guarded | go_step | go_upon)
 go_meet
 case rel => exact ⟨_, (wrap64 (b8 + 1)), sR, H', ⟨laws_FnBeamsGoOfAll.jx⟩, ⟨oS b5⟩, (bA a1), (bA a4), (bA a7), (bA b0), (bA a8), (bA b1), (bA b2), (bA b3), ⟨cR b4⟩, ⟨cR b7⟩, ⟨bB⟩⟩
 )
 rw [if_neg X8] at H
 exact fy HT_l H
 )
 rw [if_neg L8] at H
 obtain ⟨bc6, bc7⟩ := nE L8
 have H' := Aside0.mk H
 clear H
 have e5 : 0 ≤ (b8 : Int) := of_decide_eq_true asm
 have e6 : b8 < (d5.size : Int) := of_decide_eq_true (by first | exact de1 | exact asm)
 have l8 := bt_at d5 b8
 replace e5 := eq_true e5
 replace e6 := eq_true e6
 have dp6 := d6.out
 have dp7 := d7.out
 have dp8 := d1.out
 have dp9 := d2.out
 have dq0 := d3.out
 have dq1 := d4.out
 have dq2 := c2.out
 have dq3 := c3.out
 have dq4 := c6.out
 have dq5 := c7.out
 have dq6 := d9.out
 have dq7 := e0.out
 have dq8 := e1.out
 have dq9 := e2.out
 obtain ⟨bs2, bs3, bs4, bs5⟩ := cf2 a1
 repeat (go_not_at_region 11; go_not_at_region 17; go_not_at_region 26; go_not_at_region 27; go_not_at_region 42; go_not_at_region 78; go_not_at_region 81; first | go_skip | go_guarded | go_step | go_upon)
 go_meet
 case rel => exact ⟨_, (wrap64 (b8 + 1)), sR, H', ⟨laws_FnBeamsGoOfAll.jx⟩, ⟨oS b5⟩, (bA a1), (bA a4), (bA a7), (bA b0), (bA a8), (bA b1), (bA b2), (bA b3), ⟨cR b4⟩, ⟨cR b7⟩, ⟨bB⟩⟩
 )
 rw [if_neg X1] at H
 exact fy HT_l H
 )
 rw [if_neg L1] at H
 obtain ⟨bb2, bb3⟩ := nE L1
 by_cases L9 : (bt d5 b8) = 108
 ·(
 rw [if_pos L9] at H
 obtain ⟨bc8, bc9⟩ := yE L9
 clear L9
 by_cases X9 : (rd (rd_L4 a0 a3) 0) = 0
 ·(
 rw [if_pos X9] at H
 obtain ⟨dr0, dr1⟩ := yE X9
 clear X9
 by_cases M0 : (bt d5 b8) = 117
 ·(
 rw [if_pos M0] at H
 obtain ⟨bd0, bd1⟩ := yE M0
 clear M0
 by_cases Y0 : (rd (rd_L4 a0 a3) 1) = a0_1
 ·(
 rw [if_pos Y0] at H
 obtain ⟨dr2, dr3⟩ := yE Y0
 clear Y0
 by_cases M1 : (bt d5 b8) = 100
 ·(
 rw [if_pos M1] at H
 obtain ⟨bd2, bd3⟩ := yE M1
 clear M1
 by_cases Y1 : (rd (rd_L4 a0 a3) 1) = 0
 ·(
 rw [if_pos Y1] at H
 obtain ⟨dr4, dr5⟩ := yE Y1
 clear Y1
 have H' := Aside0.mk H
 clear H
 have e5 : 0 ≤ (b8 : Int) := of_decide_eq_true asm
 have e6 : b8 < (d5.size : Int) := of_decide_eq_true (by first | exact de1 | exact asm)
 have l8 := bt_at d5 b8
 replace e5 := eq_true e5
 replace e6 := eq_true e6
 have dr6 := d6.out
 have dr7 := d7.out
 have dr8 := d1.out
 have dr9 := d2.out
 have ds0 := d3.out
 have ds1 := d4.out
 have ds2 := c2.out
 have ds3 := c3.out
 have ds4 := c6.out
 have ds5 := c7.out
 have ds6 := d9.out
 have ds7 := e0.out
 have ds8 := e1.out
 have ds9 := e2.out
 obtain ⟨bs6, bs7, bs8, bs9⟩ := cf2 a1
 repeat (go_not_at_region 11; go_not_at_region 17; go_not_at_region 26; go_not_at_region 27; go_not_at_region 42; go_not_at_region 78; go_not_at_region 81; first | go_skip | go_guarded | go_step | go_upon)
 go_meet
 case rel => exact ⟨_, (wrap64 (b8 + 1)), sR, H', ⟨laws_FnBeamsGoOfAll.jx⟩, ⟨oS b5⟩, (bA a1), (bA a4), (bA a7), (bA b0), (bA a8), (bA b1), (bA b2), (bA b3), ⟨cR b4⟩, ⟨cR b7⟩, ⟨bB⟩⟩
 )
 rw [if_neg Y1] at H
 exact fy HT_l H
 )
 rw [if_neg M1] at H
 obtain ⟨bd2, bd3⟩ := nE M1
 have H' := Aside0.mk H
 clear H
 have e5 : 0 ≤ (b8 : Int) := of_decide_eq_true asm
 have e6 : b8 < (d5.size : Int) := of_decide_eq_true (by first | exact de1 | exact asm)
 have l8 := bt_at d5 b8
 replace e5 := eq_true e5
 replace e6 := eq_true e6
 have dt0 := d6.out
 have dt1 := d7.out
 have dt2 := d1.out
 have dt3 := d2.out
 have dt4 := d3.out
 have dt5 := d4.out
 have dt6 := c2.out
 have dt7 := c3.out
 have dt8 := c6.out
 have dt9 := c7.out
 have du0 := d9.out
 have du1 := e0.out
 have du2 := e1.out
 have du3 := e2.out
 obtain ⟨bt0, bt1, bt2, bt3⟩ := cf2 a1
 repeat (go_not_at_region 11; go_not_at_region 17; go_not_at_region 26; go_not_at_region 27; go_not_at_region 42; go_not_at_region 78; go_not_at_region 81; first | go_skip | go_guarded | go_step | go_upon)
 go_meet
 case rel => exact ⟨_, (wrap64 (b8 + 1)), sR, H', ⟨laws_FnBeamsGoOfAll.jx⟩, ⟨oS b5⟩, (bA a1), (bA a4), (bA a7), (bA b0), (bA a8), (bA b1), (bA b2), (bA b3), ⟨cR b4⟩, ⟨cR b7⟩, ⟨bB⟩⟩
 )
 rw [if_neg Y0] at H
 exact fy HT_l H
 )
 rw [if_neg M0] at H
 obtain ⟨bd0, bd1⟩ := nE M0
 by_cases M2 : (bt d5 b8) = 100
 ·(
 rw [if_pos M2] at H
 obtain ⟨bd4, bd5⟩ := yE M2
 clear M2
 by_cases Y2 : (rd (rd_L4 a0 a3) 1) = 0
 ·(
 rw [if_pos Y2] at H
 obtain ⟨du4, du5⟩ := yE Y2
 clear Y2
 have H' := Aside0.mk H
 clear H
 have e5 : 0 ≤ (b8 : Int) := of_decide_eq_true asm
 have e6 : b8 < (d5.size : Int) := of_decide_eq_true (by first | exact de1 | exact asm)
 have l8 := bt_at d5 b8
 replace e5 := eq_true e5
 replace e6 := eq_true e6
 repeat (go_not_at_region 11; go_not_at_region 17; go_not_at_region 26; go_not_at_region 27; go_not_at_region 42; go_not_at_region 78; go_not_at_region 81; first | go_skip | go_guarded | go_step | go_upon)
 go_meet
 case rel => exact ⟨_, (wrap64 (b8 + 1)), sR, H', ⟨laws_FnBeamsGoOfAll.jx⟩, ⟨oS b5⟩, (bA a1), (bA a4), (bA a7), (bA b0), (bA a8), (bA b1), (bA b2), (bA b3), ⟨cR b4⟩, ⟨cR b7⟩, ⟨bB⟩⟩
 )
 rw [if_neg Y2] at H
 exact fy HT_l H
 )
 rw [if_neg M2] at H
 obtain ⟨bd4, bd5⟩ := nE M2
 have H' := Aside0.mk H
 clear H
 have e5 : 0 ≤ (b8 : Int) := of_decide_eq_true asm
 have e6 : b8 < (d5.size : Int) := of_decide_eq_true (by first | exact de1 | exact asm)
 have l8 := bt_at d5 b8
 replace e5 := eq_true e5
 replace e6 := eq_true e6
 repeat (go_not_at_region 11; go_not_at_region 17; go_not_at_region 26; go_not_at_region 27; go_not_at_region 42; go_not_at_region 78; go_not_at_region 81; first | go_skip | go_guarded | go_step | go_upon)
 go_meet
 case rel => exact ⟨_, (wrap64 (b8 + 1)), sR, H', ⟨laws_FnBeamsGoOfAll.jx⟩, ⟨oS b5⟩, (bA a1), (bA a4), (bA a7), (bA b0), (bA a8), (bA b1), (bA b2), (bA b3), ⟨cR b4⟩, ⟨cR b7⟩, ⟨bB⟩⟩
 )
 rw [if_neg X9] at H
 exact fy HT_l H
 )
 rw [if_neg L9] at H
 obtain ⟨bc8, bc9⟩ := nE L9
 by_cases M3 : (bt d5 b8) = 117
 ·(
 rw [if_pos M3] at H
 obtain ⟨bd6, bd7⟩ := yE M3
 clear M3
 by_cases Y3 : (rd (rd_L4 a0 a3) 1) = a0_1
 ·(
 rw [if_pos Y3] at H
 obtain ⟨du6, du7⟩ := yE Y3
 clear Y3
 by_cases M4 : (bt d5 b8) = 100
 ·(
 rw [if_pos M4] at H
 obtain ⟨bd8, bd9⟩ := yE M4
 clear M4
 by_cases Y4 : (rd (rd_L4 a0 a3) 1) = 0
 ·(
 rw [if_pos Y4] at H
 obtain ⟨du8, du9⟩ := yE Y4
 clear Y4
 have H' := Aside0.mk H
 clear H
 have e5 : 0 ≤ (b8 : Int) := of_decide_eq_true asm
 have e6 : b8 < (d5.size : Int) := of_decide_eq_true (by first | exact de1 | exact asm)
 have l8 := bt_at d5 b8
 replace e5 := eq_true e5
 replace e6 := eq_true e6
 have dv0 := d6.out
 have dv1 := d7.out
 have dv2 := d1.out
 have dv3 := d2.out
 have dv4 := d3.out
 have dv5 := d4.out
 have dv6 := c2.out
 have dv7 := c3.out
 have dv8 := c6.out
 have dv9 := c7.out
 have dw0 := d9.out
 have dw1 := e0.out
 have dw2 := e1.out
 have dw3 := e2.out
 obtain ⟨bt4, bt5, bt6, bt7⟩ := cf2 a1
 repeat (go_not_at_region 11; go_not_at_region 17; go_not_at_region 26; go_not_at_region 27; go_not_at_region 42; go_not_at_region 78; go_not_at_region 81; first | go_skip | go_guarded | go_step | go_upon)
 go_meet
 case rel => exact ⟨_, (wrap64 (b8 + 1)), sR, H', ⟨laws_FnBeamsGoOfAll.jx⟩, ⟨oS b5⟩, (bA a1), (bA a4), (bA a7), (bA b0), (bA a8), (bA b1), (bA b2), (bA b3), ⟨cR b4⟩, ⟨cR b7⟩, ⟨bB⟩⟩
 )
 rw [if_neg Y4] at H
 exact fy HT_l H
 )
 rw [if_neg M4] at H
 obtain ⟨bd8, bd9⟩ := nE M4
 have H' := Aside0.mk H
 clear H
 have e5 : 0 ≤ (b8 : Int) := of_decide_eq_true asm
 have e6 : b8 < (d5.size : Int) := of_decide_eq_true (by first | exact de1 | exact asm)
 have l8 := bt_at d5 b8
 replace e5 := eq_true e5
 replace e6 := eq_true e6
 have dw4 := d6.out
 have dw5 := d7.out
 have dw6 := d1.out
 have dw7 := d2.out
 have dw8 := d3.out
 have dw9 := d4.out
 have dx0 := c2.out
 have dx1 := c3.out
 have dx2 := c6.out
 have dx3 := c7.out
 have dx4 := d9.out
 have dx5 := e0.out
 have dx6 := e1.out
 have dx7 := e2.out
 obtain ⟨bt8, bt9, bu0, bu1⟩ := cf2 a1
 repeat (go_not_at_region 11; go_not_at_region 17; go_not_at_region 26; go_not_at_region 27; go_not_at_region 42; go_not_at_region 78; go_not_at_region 81; first | go_skip | go_guarded | go_step | go_upon)
 go_meet
 case rel => exact ⟨_, (wrap64 (b8 + 1)), sR, H', ⟨laws_FnBeamsGoOfAll.jx⟩, ⟨oS b5⟩, (bA a1), (bA a4), (bA a7), (bA b0), (bA a8), (bA b1), (bA b2), (bA b3), ⟨cR b4⟩, ⟨cR b7⟩, ⟨bB⟩⟩
 )
 rw [if_neg Y3] at H
 exact fy HT_l H
 )
 rw [if_neg M3] at H
 obtain ⟨bd6, bd7⟩ := nE M3
 by_cases M5 : (bt d5 b8) = 100
 ·(
 rw [if_pos M5] at H
 obtain ⟨be0, be1⟩ := yE M5
 clear M5
 by_cases Y5 : (rd (rd_L4 a0 a3) 1) = 0
 ·(
 rw [if_pos Y5] at H
 obtain ⟨dx8, dx9⟩ := yE Y5
 clear Y5
 have H' := Aside0.mk H
 clear H
 have e5 : 0 ≤ (b8 : Int) := of_decide_eq_true asm
 have e6 : b8 < (d5.size : Int) := of_decide_eq_true (by first | exact de1 | exact asm)
 have l8 := bt_at d5 b8
 replace e5 := eq_true e5
 replace e6 := eq_true e6
 repeat (go_not_at_region 11; go_not_at_region 17; go_not_at_region 26; go_not_at_region 27; go_not_at_region 42; go_not_at_region 78; go_not_at_region 81; first | go_skip | go_guarded | go_step | go_upon)
 go_meet
 case rel => exact ⟨_, (wrap64 (b8 + 1)), sR, H', ⟨laws_FnBeamsGoOfAll.jx⟩, ⟨oS b5⟩, (bA a1), (bA a4), (bA a7), (bA b0), (bA a8), (bA b1), (bA b2), (bA b3), ⟨cR b4⟩, ⟨cR b7⟩, ⟨bB⟩⟩
 )
 rw [if_neg Y5] at H
 exact fy HT_l H
 )
 rw [if_neg M5] at H
 obtain ⟨be0, be1⟩ := nE M5
 have H' := Aside0.mk H
 clear H
 have e5 : 0 ≤ (b8 : Int) := of_decide_eq_true asm
 have e6 : b8 < (d5.size : Int) := of_decide_eq_true (by first | exact de1 | exact asm)
 have l8 := bt_at d5 b8
 replace e5 := eq_true e5
 replace e6 := eq_true e6
 repeat (go_not_at_region 11; go_not_at_region 17; go_not_at_region 26; go_not_at_region 27; go_not_at_region 42; go_not_at_region 78; go_not_at_region 81; first | go_skip | go_guarded | go_step | go_upon)
 go_meet
 case rel => exact ⟨_, (wrap64 (b8 + 1)), sR, H', ⟨laws_FnBeamsGoOfAll.jx⟩, ⟨oS b5⟩, (bA a1), (bA a4), (bA a7), (bA b0), (bA a8), (bA b1), (bA b2), (bA b3), ⟨cR b4⟩, ⟨cR b7⟩, ⟨bB⟩⟩
 )
 rw [if_neg X0] at H
 exact absurd H (by simp)
 )
 rw [if_neg V9] at H
 exact absurd H (by simp)
 )
 replace V7 := Bool.eq_false_iff.mpr V7
 subst V7
 rw [if_neg nft] at H
 have H' := Aside0.mk H
 clear H
 repeat (go_not_at_region 11; go_not_at_region 17; go_not_at_region 26; go_not_at_region 27; go_not_at_region 42; go_not_at_region 78; go_not_at_region 81; first | go_skip | go_guarded | go_step | go_upon)
 go_meet
 case rel => exact ⟨_, (b8), sR, H', ⟨laws_FnBeamsGoOfAll.jx⟩, ⟨oS b5⟩, (bA a1), (bA a4), (bA a7), (bA b0), (bA a8), (bA b1), (bA b2), (bA b3), ⟨cR b4⟩, ⟨cR b7⟩, ⟨bB⟩⟩
 )
 )
 clear V6
 obtain ⟨kq, j7, rfl, HA, HJ283, b5, a1, a4, a7, b0, a8, b1, b2, b3, b4, b7, HB⟩ := hcut
 cases kq with
 | zero => exact absurd HA.out (by simp [laws_FnBeamsGoOfAll.j9])
 | succ p9 => (
 as_aux_lemma => (
 have H := HA.out
 clear HA
 simp only [laws_FnBeamsGoOfAll.j9] at H; (try simp only [J9] at H)
 by_cases F5 : a3 > 1
 ·(
 rw [if_pos F5] at H
 have be2 : decide (1 < a3) = true := decide_eq_true F5
 clear F5
 obtain ⟨b9, M6⟩ : ∃ j_ : Int, (wrap64 (a3 - 2)) = j_ := ⟨_, rfl⟩
 (first | rw [M6] at H | simp only [M6] at H)
 have cw0 : (IntKind.i64.wrap (a3 - 2)) = b9 := (i64_w _).trans M6
 by_cases Y6 : 0 ≤ (b9)
 ·(
 rw [if_pos Y6] at H
 have dy0 : decide (0 ≤ (b9)) = true := decide_eq_true Y6
 clear Y6
 by_cases Y7 : (b9) < (a0.length : Int)
 ·(
 rw [if_pos Y7] at H
 have dy1 : decide ((b9) < (a0.length : Int)) = true := decide_eq_true Y7
 clear Y7
 by_cases Y8 : 0 < ((rd_L4 a0 (g3)).length : Int)
 ·(
 rw [if_pos Y8] at H
 have dy2 : decide (0 < ((rd_L4 a0 (g3)).length : Int)) = true := decide_eq_true Y8
 have dy3 : decide (0 < (rd_L4 a0 (g3)).length) = true := decide_eq_true (nl0 Y8)
 clear Y8
 by_cases F6 : (rd (rd_L4 a0 (g3)) 0) > 0
 ·(
 rw [if_pos F6] at H
 have be3 : decide (0 < (rd (rd_L4 a0 (g3)) 0)) = true := decide_eq_true F6
 clear F6
 by_cases F7 : (rd (rd_L4 a0 (g3)) 0) < a0_0
 ·(
 rw [if_pos F7] at H
 have be4 : decide ((rd (rd_L4 a0 (g3)) 0) < a0_0) = true := decide_eq_true F7
 clear F7
 by_cases Y9 : 0 < ((rd_L4 a0 (b9)).length : Int)
 ·(
 rw [if_pos Y9] at H
 have dy4 : decide (0 < ((rd_L4 a0 (b9)).length : Int)) = true := decide_eq_true Y9
 have dy5 : decide (0 < (rd_L4 a0 (b9)).length) = true := decide_eq_true (nl0 Y9)
 clear Y9
 by_cases Z0 : (wrap64 ((rd (rd_L4 a0 a3) 0) - (rd (rd_L4 a0 (g3)) 0))) = (wrap64 ((rd (rd_L4 a0 (g3)) 0) - (rd (rd_L4 a0 (b9)) 0)))
 ·(
 rw [if_pos Z0] at H
 obtain ⟨dy6, dy7⟩ := yE Z0
 clear Z0
 by_cases Z1 : 1 < ((rd_L4 a0 (g3)).length : Int)
 ·(
 rw [if_pos Z1] at H
 have dy8 : decide (1 < ((rd_L4 a0 (g3)).length : Int)) = true := decide_eq_true Z1
 have dy9 : decide (1 < (rd_L4 a0 (g3)).length) = true := decide_eq_true (nl1 Z1)
 clear Z1
 by_cases F8 : (rd (rd_L4 a0 (g3)) 1) > 0
 ·(
 rw [if_pos F8] at H
 have be5 : decide (0 < (rd (rd_L4 a0 (g3)) 1)) = true := decide_eq_true F8
 clear F8
 by_cases F9 : (rd (rd_L4 a0 (g3)) 1) < a0_1
 ·(
 rw [if_pos F9] at H
 have be6 : decide ((rd (rd_L4 a0 (g3)) 1) < a0_1) = true := decide_eq_true F9
 clear F9
 by_cases Z2 : 1 < ((rd_L4 a0 (b9)).length : Int)
 ·(
 rw [if_pos Z2] at H
 have dz0 : decide (1 < ((rd_L4 a0 (b9)).length : Int)) = true := decide_eq_true Z2
 have dz1 : decide (1 < (rd_L4 a0 (b9)).length) = true := decide_eq_true (nl1 Z2)
 clear Z2
 by_cases Z3 : (wrap64 ((rd (rd_L4 a0 a3) 1) - (rd (rd_L4 a0 (g3)) 1))) = (wrap64 ((rd (rd_L4 a0 (g3)) 1) - (rd (rd_L4 a0 (b9)) 1)))
 ·(
 rw [if_pos Z3] at H
 obtain ⟨dz2, dz3⟩ := yE Z3
 clear Z3
 have H' := Aside0.mk H
 clear H
 have g1 : 0 ≤ ((b9) : Int) := of_decide_eq_true asm
 have g2 : (b9) < (a0.length : Int) := of_decide_eq_true (by first | exact dy1 | exact asm)
 obtain ⟨l1, q2, q3, m2, h3, e7, e8⟩ := at_L4 (Kd.S_reads' b5.out).2.2 (b9) g1 g2
 obtain rfl : l0 = l1 := (by injection m2)
 obtain ⟨u9, i2, i3, g4⟩ := Kd.S_get b5.out [] (b9) g1 (by first | exact g2 | exact of_decide_eq_true asm | (have e_ := (Kd.S_reads' b5.out).1; omega))
 obtain ⟨o5, rfl, c8⟩ := i3
 have c0 := g4 0 _ rfl
 rw [Nat.add_zero, show ((Kd.slice 3 (Kd.int .i64))).sz = 1 from rfl, Nat.mul_one] at c0
 replace c0 := Option.some.inj (c0.symm.trans h3)
 rw [c0] at c8
 have c9 := Aside0.mk (show Kd.R (Kd.int .i64) 3 _ _ _ _ (rd_L4 a0 (b9)) from c8)
 clear c0 c8 g4 i2
 have c4 := Aside0.mk e8
 have o6 := Aside0.mk e7
 clear e8 e7
 replace g1 := eq_true g1
 replace g2 := eq_true g2
 repeat (go_not_at_region 11; go_not_at_region 17; go_not_at_region 26; go_not_at_region 27; go_not_at_region 42; go_not_at_region 78; go_not_at_region 81; first | go_skip | go_guarded | go_step | go_upon)
 replace b5 := Aside0.mk (Kd.S_drew b5.out)
 replace c9 := Aside0.mk (Kd.R_drew c9.out)
 replace a1 := bD1 a1
 replace a4 := bD1 a4
 replace a7 := bD1 a7
 replace b0 := bD1 b0
 replace a8 := bD1 a8
 replace b1 := bD1 b1
 replace b2 := bD1 b2
 replace b3 := bD1 b3
 replace b4 := Aside0.mk (Kd.C_drew b4.out)
 replace b7 := Aside0.mk (Kd.C_drew b7.out)
 replace c4 := Aside0.mk (Kd.C_drew c4.out)
 replace HB := Aside0.mk (below_drew1 HB.out)
 have h0 : 0 ≤ (0 : Int) := (by decide)
 have h1 : 0 < ((rd_L4 a0 (g3)).length : Int) := of_decide_eq_true (by first | exact dy2 | exact d21 | exact asm)
 obtain ⟨b6, m3, c1⟩ := Kd.at_int (cR b4) 0 h0 h1
 cases m3
 have v0 : (0 < (rd_L4 a0 (g3)).length) = True := eq_true (nl0 h1)
 (try rw [show ((0 : Int)).toNat = 0 from rfl] at c1)
 (try rw [Addr.add_zero'] at c1)
 replace h0 := eq_true h0
 replace h1 := eq_true h1
 have j8 : 0 ≤ (0 : Int) := (by decide)
 have j9 : 0 < ((rd_L4 a0 (g3)).length : Int) := of_decide_eq_true (by first | exact dy2 | exact d21 | exact asm)
 obtain ⟨p7, r1, e4⟩ := Kd.at_int (cR b4) 0 j8 j9
 obtain rfl : b6 = p7 := (by injection r1)
 have E2 : (0 < (rd_L4 a0 (g3)).length) = True := eq_true (nl0 j9)
 (try rw [show ((0 : Int)).toNat = 0 from rfl] at e4)
 (try rw [Addr.add_zero'] at e4)
 replace j8 := eq_true j8
 replace j9 := eq_true j9
 have r2 : 0 ≤ (0 : Int) := (by decide)
 have r3 : 0 < ((rd_L4 a0 (g3)).length : Int) := of_decide_eq_true (by first | exact dy2 | exact d21 | exact asm)
 obtain ⟨E3, M7, i4⟩ := Kd.at_int (cR b4) 0 r2 r3
 obtain rfl : b6 = E3 := (by injection M7)
 have b18 : (0 < (rd_L4 a0 (g3)).length) = True := eq_true (nl0 r3)
 (try rw [show ((0 : Int)).toNat = 0 from rfl] at i4)
 (try rw [Addr.add_zero'] at i4)
 replace r2 := eq_true r2
 replace r3 := eq_true r3
 have r4 : 0 ≤ (0 : Int) := (by decide)
 have r5 : 0 < ((rd_L4 a0 (g3)).length : Int) := of_decide_eq_true (by first | exact dy2 | exact d21 | exact asm)
 obtain ⟨E4, M8, i5⟩ := Kd.at_int (cR b4) 0 r4 r5
 obtain rfl : b6 = E4 := (by injection M8)
 have b19 : (0 < (rd_L4 a0 (g3)).length) = True := eq_true (nl0 r5)
 (try rw [show ((0 : Int)).toNat = 0 from rfl] at i5)
 (try rw [Addr.add_zero'] at i5)
 replace r4 := eq_true r4
 replace r5 := eq_true r5
 have r6 : 0 ≤ (0 : Int) := (by decide)
 have r7 : 0 < ((rd_L4 a0 (b9)).length : Int) := of_decide_eq_true (by first | exact dy4 | exact asm)
 obtain ⟨v1, M9, i6⟩ := Kd.at_int (cR c4) 0 r6 r7
 cases M9
 have b20 : (0 < (rd_L4 a0 (b9)).length) = True := eq_true (nl0 r7)
 (try rw [show ((0 : Int)).toNat = 0 from rfl] at i6)
 (try rw [Addr.add_zero'] at i6)
 replace r6 := eq_true r6
 replace r7 := eq_true r7
 have r8 : 0 ≤ (1 : Int) := (by decide)
 have r9 : 1 < ((rd_L4 a0 (g3)).length : Int) := of_decide_eq_true (by first | exact dy8 | exact d25 | exact asm)
 obtain ⟨E5, N0, i7⟩ := Kd.at_int (cR b4) 1 r8 r9
 obtain rfl : b6 = E5 := (by injection N0)
 (try simp only [show (1 : Int).toNat = 1 from rfl, Nat.reduceMul, Nat.reduceEqDiff, Go.Addr.add, ↓reduceIte] at i7)
 have b21 : (1 < (rd_L4 a0 (g3)).length) = True := eq_true (nl1 r9)
 (try rw [show ((1 : Int)).toNat = 1 from rfl] at i7)
 replace r8 := eq_true r8
 replace r9 := eq_true r9
 have D1 : 0 ≤ (1 : Int) := (by decide)
 have D2 : 1 < ((rd_L4 a0 (g3)).length : Int) := of_decide_eq_true (by first | exact dy8 | exact d25 | exact asm)
 obtain ⟨Z4, ag3, n4⟩ := Kd.at_int (cR b4) 1 D1 D2
 obtain rfl : b6 = Z4 := (by injection ag3)
 (try simp only [show (1 : Int).toNat = 1 from rfl, Nat.reduceMul, Nat.reduceEqDiff, Go.Addr.add, ↓reduceIte] at n4)
 have bi3 : (1 < (rd_L4 a0 (g3)).length) = True := eq_true (nl1 D2)
 (try rw [show ((1 : Int)).toNat = 1 from rfl] at n4)
 replace D1 := eq_true D1
 replace D2 := eq_true D2
 have ag4 : 0 ≤ (1 : Int) := (by decide)
 have ag5 : 1 < ((rd_L4 a0 (g3)).length : Int) := of_decide_eq_true (by first | exact dy8 | exact d25 | exact asm)
 obtain ⟨bi4, bu2, C0⟩ := Kd.at_int (cR b4) 1 ag4 ag5
 obtain rfl : b6 = bi4 := (by injection bu2)
 (try simp only [show (1 : Int).toNat = 1 from rfl, Nat.reduceMul, Nat.reduceEqDiff, Go.Addr.add, ↓reduceIte] at C0)
 have h11 : (1 < (rd_L4 a0 (g3)).length) = True := eq_true (nl1 ag5)
 (try rw [show ((1 : Int)).toNat = 1 from rfl] at C0)
 replace ag4 := eq_true ag4
 replace ag5 := eq_true ag5
 have ag6 : 0 ≤ (1 : Int) := (by decide)
 have ag7 : 1 < ((rd_L4 a0 (g3)).length : Int) := of_decide_eq_true (by first | exact dy8 | exact d25 | exact asm)
 obtain ⟨bi5, bu3, C1⟩ := Kd.at_int (cR b4) 1 ag6 ag7
 obtain rfl : b6 = bi5 := (by injection bu3)
 (try simp only [show (1 : Int).toNat = 1 from rfl, Nat.reduceMul, Nat.reduceEqDiff, Go.Addr.add, ↓reduceIte] at C1)
 have h12 : (1 < (rd_L4 a0 (g3)).length) = True := eq_true (nl1 ag7)
 (try rw [show ((1 : Int)).toNat = 1 from rfl] at C1)
 replace ag6 := eq_true ag6
 replace ag7 := eq_true ag7
 have ag8 : 0 ≤ (1 : Int) := (by decide)
 have ag9 : 1 < ((rd_L4 a0 (b9)).length : Int) := of_decide_eq_true (by first | exact dz0 | exact asm)
 obtain ⟨bi6, bu4, C2⟩ := Kd.at_int (cR c4) 1 ag8 ag9
 obtain rfl : v1 = bi6 := (by injection bu4)
 (try simp only [show (1 : Int).toNat = 1 from rfl, Nat.reduceMul, Nat.reduceEqDiff, Go.Addr.add, ↓reduceIte] at C2)
 have h13 : (1 < (rd_L4 a0 (b9)).length) = True := eq_true (nl1 ag9)
 (try rw [show ((1 : Int)).toNat = 1 from rfl] at C2)
 replace ag8 := eq_true ag8
 replace ag9 := eq_true ag9
 as_aux_lemma => (
 refine st_ 56 laws_FnBeamsGoOfAll.pl2 (S := fun w' => w'.cell? ⟨e9, 0, none⟩ = some (.int .i64 a0_0) ∧ w'.cell? ⟨e9, 1, none⟩ = some (.int .i64 a0_1) ∧ w'.cell? b6 = some (.int .i64 (rd (rd_L4 a0 (g3)) 0)) ∧ w'.cell? b6 = some (.int .i64 (rd (rd_L4 a0 (g3)) 0)) ∧ w'.cell? b6 = some (.int .i64 (rd (rd_L4 a0 (g3)) 0)) ∧ w'.cell? b6 = some (.int .i64 (rd (rd_L4 a0 (g3)) 0)) ∧ w'.cell? v1 = some (.int .i64 (rd (rd_L4 a0 (b9)) 0)) ∧ w'.cell? ⟨b6.block, b6.off + 1, none⟩ = some (.int .i64 (rd (rd_L4 a0 (g3)) 1)) ∧ w'.cell? ⟨b6.block, b6.off + 1, none⟩ = some (.int .i64 (rd (rd_L4 a0 (g3)) 1)) ∧ w'.cell? ⟨b6.block, b6.off + 1, none⟩ = some (.int .i64 (rd (rd_L4 a0 (g3)) 1)) ∧ w'.cell? ⟨b6.block, b6.off + 1, none⟩ = some (.int .i64 (rd (rd_L4 a0 (g3)) 1)) ∧ w'.cell? ⟨v1.block, v1.off + 1, none⟩ = some (.int .i64 (rd (rd_L4 a0 (b9)) 1))) (ds := []) laws_FnBeamsGoOfAll.tab42 laws_FnBeamsGoOfAll.bits42 ⟨cb a1 0, cb a1 1, c1, e4, i4, i5, i6, i7, n4, C0, C1, C2⟩ (fun hHeld HT_ HW_ => ?_)
 generalize wc.drew = h51 at b5 c9 a1 a4 a7 b0 a8 b1 b2 b3 b4 b7 c4 HB c1 e4 i4 i5 i6 i7 n4 C0 C1 C2 hHeld ⊢
 iterate 56 (first | refine rA HT_ ?_ | refine rT HT_ HW_ hHeld ?_)
 refine pD HT_ ?_
 repeat (go_not_at_region 11; go_not_at_region 17; go_not_at_region 26; go_not_at_region 27; go_not_at_region 42; go_not_at_region 78; go_not_at_region 81; first | go_skip | go_guarded | go_step | go_upon)
 (try rw [dSet])
 go_roundg p9
 case measure => exact laws_FnBeamsGoOfAll.jx
 case rel => exact ⟨(j7), (wrap64 (a3 + 1)), sR, sR, H', ⟨laws_FnBeamsGoOfAll.jx⟩, ⟨oS b5⟩, (bA a1), (bA a4), (bA a7), (bA b0), (bA a8), (bA b1), (bA b2), (bA b3), ⟨bB⟩⟩
 )
 )
 rw [if_neg Z3] at H
 exact fy HT_l H
 )
 rw [if_neg Z2] at H
 exact absurd H (by simp)
 )
 rw [if_neg F9] at H
 have be6 : decide ((rd (rd_L4 a0 (g3)) 1) < a0_1) = false := decide_eq_false F9
 clear F9
 have H' := Aside0.mk H
 clear H
 have g1 : 0 ≤ ((b9) : Int) := of_decide_eq_true asm
 have g2 : (b9) < (a0.length : Int) := of_decide_eq_true (by first | exact dy1 | exact asm)
 obtain ⟨l1, q2, q3, m2, h3, e7, e8⟩ := at_L4 (Kd.S_reads' b5.out).2.2 (b9) g1 g2
 obtain rfl : l0 = l1 := (by injection m2)
 obtain ⟨u9, i2, i3, g4⟩ := Kd.S_get b5.out [] (b9) g1 (by first | exact g2 | exact of_decide_eq_true asm | (have e_ := (Kd.S_reads' b5.out).1; omega))
 obtain ⟨o5, rfl, c8⟩ := i3
 have c0 := g4 0 _ rfl
 rw [Nat.add_zero, show ((Kd.slice 3 (Kd.int .i64))).sz = 1 from rfl, Nat.mul_one] at c0
 replace c0 := Option.some.inj (c0.symm.trans h3)
 rw [c0] at c8
 have c9 := Aside0.mk (show Kd.R (Kd.int .i64) 3 _ _ _ _ (rd_L4 a0 (b9)) from c8)
 clear c0 c8 g4 i2
 have c4 := Aside0.mk e8
 have o6 := Aside0.mk e7
 clear e8 e7
 replace g1 := eq_true g1
 replace g2 := eq_true g2
 repeat (go_not_at_region 11; go_not_at_region 17; go_not_at_region 26; go_not_at_region 27; go_not_at_region 42; go_not_at_region 78; go_not_at_region 81; first | go_skip | go_guarded | go_step | go_upon)
 replace b5 := Aside0.mk (Kd.S_drew b5.out)
 replace c9 := Aside0.mk (Kd.R_drew c9.out)
 replace a1 := bD1 a1
 replace a4 := bD1 a4
 replace a7 := bD1 a7
 replace b0 := bD1 b0
 replace a8 := bD1 a8
 replace b1 := bD1 b1
 replace b2 := bD1 b2
 replace b3 := bD1 b3
 replace b4 := Aside0.mk (Kd.C_drew b4.out)
 replace b7 := Aside0.mk (Kd.C_drew b7.out)
 replace c4 := Aside0.mk (Kd.C_drew c4.out)
 replace HB := Aside0.mk (below_drew1 HB.out)
 have h0 : 0 ≤ (0 : Int) := (by decide)
 have h1 : 0 < ((rd_L4 a0 (g3)).length : Int) := of_decide_eq_true (by first | exact dy2 | exact d21 | exact asm)
 obtain ⟨b6, m3, c1⟩ := Kd.at_int (cR b4) 0 h0 h1
 cases m3
 have v0 : (0 < (rd_L4 a0 (g3)).length) = True := eq_true (nl0 h1)
 (try rw [show ((0 : Int)).toNat = 0 from rfl] at c1)
 (try rw [Addr.add_zero'] at c1)
 replace h0 := eq_true h0
 replace h1 := eq_true h1
 have j8 : 0 ≤ (0 : Int) := (by decide)
 have j9 : 0 < ((rd_L4 a0 (g3)).length : Int) := of_decide_eq_true (by first | exact dy2 | exact d21 | exact asm)
 obtain ⟨p7, r1, e4⟩ := Kd.at_int (cR b4) 0 j8 j9
 obtain rfl : b6 = p7 := (by injection r1)
 have E2 : (0 < (rd_L4 a0 (g3)).length) = True := eq_true (nl0 j9)
 (try rw [show ((0 : Int)).toNat = 0 from rfl] at e4)
 (try rw [Addr.add_zero'] at e4)
 replace j8 := eq_true j8
 replace j9 := eq_true j9
 have r2 : 0 ≤ (0 : Int) := (by decide)
 have r3 : 0 < ((rd_L4 a0 (g3)).length : Int) := of_decide_eq_true (by first | exact dy2 | exact d21 | exact asm)
 obtain ⟨E3, M7, i4⟩ := Kd.at_int (cR b4) 0 r2 r3
 obtain rfl : b6 = E3 := (by injection M7)
 have b18 : (0 < (rd_L4 a0 (g3)).length) = True := eq_true (nl0 r3)
 (try rw [show ((0 : Int)).toNat = 0 from rfl] at i4)
 (try rw [Addr.add_zero'] at i4)
 replace r2 := eq_true r2
 replace r3 := eq_true r3
 have r4 : 0 ≤ (0 : Int) := (by decide)
 have r5 : 0 < ((rd_L4 a0 (g3)).length : Int) := of_decide_eq_true (by first | exact dy2 | exact d21 | exact asm)
 obtain ⟨E4, M8, i5⟩ := Kd.at_int (cR b4) 0 r4 r5
 obtain rfl : b6 = E4 := (by injection M8)
 have b19 : (0 < (rd_L4 a0 (g3)).length) = True := eq_true (nl0 r5)
 (try rw [show ((0 : Int)).toNat = 0 from rfl] at i5)
 (try rw [Addr.add_zero'] at i5)
 replace r4 := eq_true r4
 replace r5 := eq_true r5
 have r6 : 0 ≤ (0 : Int) := (by decide)
 have r7 : 0 < ((rd_L4 a0 (b9)).length : Int) := of_decide_eq_true (by first | exact dy4 | exact asm)
 obtain ⟨v1, M9, i6⟩ := Kd.at_int (cR c4) 0 r6 r7
 cases M9
 have b20 : (0 < (rd_L4 a0 (b9)).length) = True := eq_true (nl0 r7)
 (try rw [show ((0 : Int)).toNat = 0 from rfl] at i6)
 (try rw [Addr.add_zero'] at i6)
 replace r6 := eq_true r6
 replace r7 := eq_true r7
 have r8 : 0 ≤ (1 : Int) := (by decide)
 have r9 : 1 < ((rd_L4 a0 (g3)).length : Int) := of_decide_eq_true (by first | exact dy8 | exact d25 | exact asm)
 obtain ⟨E5, N0, i7⟩ := Kd.at_int (cR b4) 1 r8 r9
 obtain rfl : b6 = E5 := (by injection N0)
 (try simp only [show (1 : Int).toNat = 1 from rfl, Nat.reduceMul, Nat.reduceEqDiff, Go.Addr.add, ↓reduceIte] at i7)
 have b21 : (1 < (rd_L4 a0 (g3)).length) = True := eq_true (nl1 r9)
 (try rw [show ((1 : Int)).toNat = 1 from rfl] at i7)
 replace r8 := eq_true r8
 replace r9 := eq_true r9
 have D1 : 0 ≤ (1 : Int) := (by decide)
 have D2 : 1 < ((rd_L4 a0 (g3)).length : Int) := of_decide_eq_true (by first | exact dy8 | exact d25 | exact asm)
 obtain ⟨Z4, ag3, n4⟩ := Kd.at_int (cR b4) 1 D1 D2
 obtain rfl : b6 = Z4 := (by injection ag3)
 (try simp only [show (1 : Int).toNat = 1 from rfl, Nat.reduceMul, Nat.reduceEqDiff, Go.Addr.add, ↓reduceIte] at n4)
 have bi3 : (1 < (rd_L4 a0 (g3)).length) = True := eq_true (nl1 D2)
 (try rw [show ((1 : Int)).toNat = 1 from rfl] at n4)
 replace D1 := eq_true D1
 replace D2 := eq_true D2
 as_aux_lemma => (
 refine st_ 56 laws_FnBeamsGoOfAll.pl3 (S := fun w' => w'.cell? ⟨e9, 0, none⟩ = some (.int .i64 a0_0) ∧ w'.cell? ⟨e9, 1, none⟩ = some (.int .i64 a0_1) ∧ w'.cell? b6 = some (.int .i64 (rd (rd_L4 a0 (g3)) 0)) ∧ w'.cell? b6 = some (.int .i64 (rd (rd_L4 a0 (g3)) 0)) ∧ w'.cell? b6 = some (.int .i64 (rd (rd_L4 a0 (g3)) 0)) ∧ w'.cell? b6 = some (.int .i64 (rd (rd_L4 a0 (g3)) 0)) ∧ w'.cell? v1 = some (.int .i64 (rd (rd_L4 a0 (b9)) 0)) ∧ w'.cell? ⟨b6.block, b6.off + 1, none⟩ = some (.int .i64 (rd (rd_L4 a0 (g3)) 1)) ∧ w'.cell? ⟨b6.block, b6.off + 1, none⟩ = some (.int .i64 (rd (rd_L4 a0 (g3)) 1))) (ds := []) laws_FnBeamsGoOfAll.tab42 laws_FnBeamsGoOfAll.bits42 ⟨cb a1 0, cb a1 1, c1, e4, i4, i5, i6, i7, n4⟩ (fun hHeld HT_ HW_ => ?_)
 generalize wc.drew = h52 at b5 c9 a1 a4 a7 b0 a8 b1 b2 b3 b4 b7 c4 HB c1 e4 i4 i5 i6 i7 n4 hHeld ⊢
 iterate 56 (first | refine rA HT_ ?_ | refine rB HT_ ?_ | refine rT HT_ HW_ hHeld ?_)
 refine pD HT_ ?_
 repeat (go_not_at_region 11; go_not_at_region 17; go_not_at_region 26; go_not_at_region 27; go_not_at_region 42; go_not_at_region 78; go_not_at_region 81; first | go_skip | go_guarded | go_step | go_upon)
 (try rw [dSet])
 go_roundg p9
 case measure => exact laws_FnBeamsGoOfAll.jx
 case rel => exact ⟨(j7), (wrap64 (a3 + 1)), sR, sR, H', ⟨laws_FnBeamsGoOfAll.jx⟩, ⟨oS b5⟩, (bA a1), (bA a4), (bA a7), (bA b0), (bA a8), (bA b1), (bA b2), (bA b3), ⟨bB⟩⟩
 )
 )
 rw [if_neg F8] at H
 have be5 : decide (0 < (rd (rd_L4 a0 (g3)) 1)) = false := decide_eq_false F8
 clear F8
 have H' := Aside0.mk H
 clear H
 have g1 : 0 ≤ ((b9) : Int) := of_decide_eq_true asm
 have g2 : (b9) < (a0.length : Int) := of_decide_eq_true (by first | exact dy1 | exact asm)
 obtain ⟨l1, q2, q3, m2, h3, e7, e8⟩ := at_L4 (Kd.S_reads' b5.out).2.2 (b9) g1 g2
 obtain rfl : l0 = l1 := (by injection m2)
 obtain ⟨u9, i2, i3, g4⟩ := Kd.S_get b5.out [] (b9) g1 (by first | exact g2 | exact of_decide_eq_true asm | (have e_ := (Kd.S_reads' b5.out).1; omega))
 obtain ⟨o5, rfl, c8⟩ := i3
 have c0 := g4 0 _ rfl
 rw [Nat.add_zero, show ((Kd.slice 3 (Kd.int .i64))).sz = 1 from rfl, Nat.mul_one] at c0
 replace c0 := Option.some.inj (c0.symm.trans h3)
 rw [c0] at c8
 have c9 := Aside0.mk (show Kd.R (Kd.int .i64) 3 _ _ _ _ (rd_L4 a0 (b9)) from c8)
 clear c0 c8 g4 i2
 have c4 := Aside0.mk e8
 have o6 := Aside0.mk e7
 clear e8 e7
 replace g1 := eq_true g1
 replace g2 := eq_true g2
 repeat (go_not_at_region 11; go_not_at_region 17; go_not_at_region 26; go_not_at_region 27; go_not_at_region 42; go_not_at_region 78; go_not_at_region 81; first | go_skip | go_guarded | go_step | go_upon)
 replace b5 := Aside0.mk (Kd.S_drew b5.out)
 replace c9 := Aside0.mk (Kd.R_drew c9.out)
 replace a1 := bD1 a1
 replace a4 := bD1 a4
 replace a7 := bD1 a7
 replace b0 := bD1 b0
 replace a8 := bD1 a8
 replace b1 := bD1 b1
 replace b2 := bD1 b2
 replace b3 := bD1 b3
 replace b4 := Aside0.mk (Kd.C_drew b4.out)
 replace b7 := Aside0.mk (Kd.C_drew b7.out)
 replace c4 := Aside0.mk (Kd.C_drew c4.out)
 replace HB := Aside0.mk (below_drew1 HB.out)
 have h0 : 0 ≤ (0 : Int) := (by decide)
 have h1 : 0 < ((rd_L4 a0 (g3)).length : Int) := of_decide_eq_true (by first | exact dy2 | exact d21 | exact asm)
 obtain ⟨b6, m3, c1⟩ := Kd.at_int (cR b4) 0 h0 h1
 cases m3
 have v0 : (0 < (rd_L4 a0 (g3)).length) = True := eq_true (nl0 h1)
 (try rw [show ((0 : Int)).toNat = 0 from rfl] at c1)
 (try rw [Addr.add_zero'] at c1)
 replace h0 := eq_true h0
 replace h1 := eq_true h1
 have j8 : 0 ≤ (0 : Int) := (by decide)
 have j9 : 0 < ((rd_L4 a0 (g3)).length : Int) := of_decide_eq_true (by first | exact dy2 | exact d21 | exact asm)
 obtain ⟨p7, r1, e4⟩ := Kd.at_int (cR b4) 0 j8 j9
 obtain rfl : b6 = p7 := (by injection r1)
 have E2 : (0 < (rd_L4 a0 (g3)).length) = True := eq_true (nl0 j9)
 (try rw [show ((0 : Int)).toNat = 0 from rfl] at e4)
 (try rw [Addr.add_zero'] at e4)
 replace j8 := eq_true j8
 replace j9 := eq_true j9
 have r2 : 0 ≤ (0 : Int) := (by decide)
 have r3 : 0 < ((rd_L4 a0 (g3)).length : Int) := of_decide_eq_true (by first | exact dy2 | exact d21 | exact asm)
 obtain ⟨E3, M7, i4⟩ := Kd.at_int (cR b4) 0 r2 r3
 obtain rfl : b6 = E3 := (by injection M7)
 have b18 : (0 < (rd_L4 a0 (g3)).length) = True := eq_true (nl0 r3)
 (try rw [show ((0 : Int)).toNat = 0 from rfl] at i4)
 (try rw [Addr.add_zero'] at i4)
 replace r2 := eq_true r2
 replace r3 := eq_true r3
 have r4 : 0 ≤ (0 : Int) := (by decide)
 have r5 : 0 < ((rd_L4 a0 (g3)).length : Int) := of_decide_eq_true (by first | exact dy2 | exact d21 | exact asm)
 obtain ⟨E4, M8, i5⟩ := Kd.at_int (cR b4) 0 r4 r5
 obtain rfl : b6 = E4 := (by injection M8)
 have b19 : (0 < (rd_L4 a0 (g3)).length) = True := eq_true (nl0 r5)
 (try rw [show ((0 : Int)).toNat = 0 from rfl] at i5)
 (try rw [Addr.add_zero'] at i5)
 replace r4 := eq_true r4
 replace r5 := eq_true r5
 have r6 : 0 ≤ (0 : Int) := (by decide)
 have r7 : 0 < ((rd_L4 a0 (b9)).length : Int) := of_decide_eq_true (by first | exact dy4 | exact asm)
 obtain ⟨v1, M9, i6⟩ := Kd.at_int (cR c4) 0 r6 r7
 cases M9
 have b20 : (0 < (rd_L4 a0 (b9)).length) = True := eq_true (nl0 r7)
 (try rw [show ((0 : Int)).toNat = 0 from rfl] at i6)
 (try rw [Addr.add_zero'] at i6)
 replace r6 := eq_true r6
 replace r7 := eq_true r7
 have r8 : 0 ≤ (1 : Int) := (by decide)
 have r9 : 1 < ((rd_L4 a0 (g3)).length : Int) := of_decide_eq_true (by first | exact dy8 | exact d25 | exact asm)
 obtain ⟨E5, N0, i7⟩ := Kd.at_int (cR b4) 1 r8 r9
 obtain rfl : b6 = E5 := (by injection N0)
 (try simp only [show (1 : Int).toNat = 1 from rfl, Nat.reduceMul, Nat.reduceEqDiff, Go.Addr.add, ↓reduceIte] at i7)
 have b21 : (1 < (rd_L4 a0 (g3)).length) = True := eq_true (nl1 r9)
 (try rw [show ((1 : Int)).toNat = 1 from rfl] at i7)
 replace r8 := eq_true r8
 replace r9 := eq_true r9
 as_aux_lemma => (
 refine st_ 56 laws_FnBeamsGoOfAll.pl4 (S := fun w' => w'.cell? ⟨e9, 0, none⟩ = some (.int .i64 a0_0) ∧ w'.cell? ⟨e9, 1, none⟩ = some (.int .i64 a0_1) ∧ w'.cell? b6 = some (.int .i64 (rd (rd_L4 a0 (g3)) 0)) ∧ w'.cell? b6 = some (.int .i64 (rd (rd_L4 a0 (g3)) 0)) ∧ w'.cell? b6 = some (.int .i64 (rd (rd_L4 a0 (g3)) 0)) ∧ w'.cell? b6 = some (.int .i64 (rd (rd_L4 a0 (g3)) 0)) ∧ w'.cell? v1 = some (.int .i64 (rd (rd_L4 a0 (b9)) 0)) ∧ w'.cell? ⟨b6.block, b6.off + 1, none⟩ = some (.int .i64 (rd (rd_L4 a0 (g3)) 1))) (ds := []) laws_FnBeamsGoOfAll.tab42 laws_FnBeamsGoOfAll.bits42 ⟨cb a1 0, cb a1 1, c1, e4, i4, i5, i6, i7⟩ (fun hHeld HT_ HW_ => ?_)
 generalize wc.drew = h53 at b5 c9 a1 a4 a7 b0 a8 b1 b2 b3 b4 b7 c4 HB c1 e4 i4 i5 i6 i7 hHeld ⊢
 iterate 56 (first | refine rA HT_ ?_ | refine rB HT_ ?_ | refine rT HT_ HW_ hHeld ?_)
 refine pD HT_ ?_
 repeat (go_not_at_region 11; go_not_at_region 17; go_not_at_region 26; go_not_at_region 27; go_not_at_region 42; go_not_at_region 78; go_not_at_region 81; first | go_skip | go_guarded | go_step | go_upon)
 (try rw [dSet])
 go_roundg p9
 case measure => exact laws_FnBeamsGoOfAll.jx
 case rel => exact ⟨(j7), (wrap64 (a3 + 1)), sR, sR, H', ⟨laws_FnBeamsGoOfAll.jx⟩, ⟨oS b5⟩, (bA a1), (bA a4), (bA a7), (bA b0), (bA a8), (bA b1), (bA b2), (bA b3), ⟨bB⟩⟩
 )
 )
 rw [if_neg Z1] at H
 exact absurd H (by simp)
 )
 rw [if_neg Z0] at H
 exact fy HT_l H
 )
 rw [if_neg Y9] at H
 exact absurd H (by simp)
 )
 rw [if_neg F7] at H
 have be4 : decide ((rd (rd_L4 a0 (g3)) 0) < a0_0) = false := decide_eq_false F7
 clear F7
 by_cases Z5 : 1 < ((rd_L4 a0 (g3)).length : Int)
 ·(
 rw [if_pos Z5] at H
 have dz4 : decide (1 < ((rd_L4 a0 (g3)).length : Int)) = true := decide_eq_true Z5
 have dz5 : decide (1 < (rd_L4 a0 (g3)).length) = true := decide_eq_true (nl1 Z5)
 clear Z5
 by_cases G0 : (rd (rd_L4 a0 (g3)) 1) > 0
 ·(
 rw [if_pos G0] at H
 have be7 : decide (0 < (rd (rd_L4 a0 (g3)) 1)) = true := decide_eq_true G0
 clear G0
 by_cases G1 : (rd (rd_L4 a0 (g3)) 1) < a0_1
 ·(
 rw [if_pos G1] at H
 have be8 : decide ((rd (rd_L4 a0 (g3)) 1) < a0_1) = true := decide_eq_true G1
 clear G1
 by_cases Z6 : 1 < ((rd_L4 a0 (b9)).length : Int)
 ·(
 rw [if_pos Z6] at H
 have dz6 : decide (1 < ((rd_L4 a0 (b9)).length : Int)) = true := decide_eq_true Z6
 have dz7 : decide (1 < (rd_L4 a0 (b9)).length) = true := decide_eq_true (nl1 Z6)
 clear Z6
 by_cases Z7 : (wrap64 ((rd (rd_L4 a0 a3) 1) - (rd (rd_L4 a0 (g3)) 1))) = (wrap64 ((rd (rd_L4 a0 (g3)) 1) - (rd (rd_L4 a0 (b9)) 1)))
 ·(
 rw [if_pos Z7] at H
 obtain ⟨dz8, dz9⟩ := yE Z7
 clear Z7
 have H' := Aside0.mk H
 clear H
 have g1 : 0 ≤ ((b9) : Int) := of_decide_eq_true asm
 have g2 : (b9) < (a0.length : Int) := of_decide_eq_true (by first | exact dy1 | exact asm)
 obtain ⟨l1, q2, q3, m2, h3, e7, e8⟩ := at_L4 (Kd.S_reads' b5.out).2.2 (b9) g1 g2
 obtain rfl : l0 = l1 := (by injection m2)
 obtain ⟨u9, i2, i3, g4⟩ := Kd.S_get b5.out [] (b9) g1 (by first | exact g2 | exact of_decide_eq_true asm | (have e_ := (Kd.S_reads' b5.out).1; omega))
 obtain ⟨o5, rfl, c8⟩ := i3
 have c0 := g4 0 _ rfl
 rw [Nat.add_zero, show ((Kd.slice 3 (Kd.int .i64))).sz = 1 from rfl, Nat.mul_one] at c0
 replace c0 := Option.some.inj (c0.symm.trans h3)
 rw [c0] at c8
 have c9 := Aside0.mk (show Kd.R (Kd.int .i64) 3 _ _ _ _ (rd_L4 a0 (b9)) from c8)
 clear c0 c8 g4 i2
 have c4 := Aside0.mk e8
 have o6 := Aside0.mk e7
 clear e8 e7
 replace g1 := eq_true g1
 replace g2 := eq_true g2
 repeat (go_not_at_region 11; go_not_at_region 17; go_not_at_region 26; go_not_at_region 27; go_not_at_region 42; go_not_at_region 78; go_not_at_region 81; first | go_skip | go_guarded | go_step | go_upon)
 replace b5 := Aside0.mk (Kd.S_drew b5.out)
 replace c9 := Aside0.mk (Kd.R_drew c9.out)
 replace a1 := bD1 a1
 replace a4 := bD1 a4
 replace a7 := bD1 a7
 replace b0 := bD1 b0
 replace a8 := bD1 a8
 replace b1 := bD1 b1
 replace b2 := bD1 b2
 replace b3 := bD1 b3
 replace b4 := Aside0.mk (Kd.C_drew b4.out)
 replace b7 := Aside0.mk (Kd.C_drew b7.out)
 replace c4 := Aside0.mk (Kd.C_drew c4.out)
 replace HB := Aside0.mk (below_drew1 HB.out)
 have h0 : 0 ≤ (0 : Int) := (by decide)
 have h1 : 0 < ((rd_L4 a0 (g3)).length : Int) := of_decide_eq_true (by first | exact dy2 | exact d21 | exact asm)
 obtain ⟨b6, m3, c1⟩ := Kd.at_int (cR b4) 0 h0 h1
 cases m3
 have v0 : (0 < (rd_L4 a0 (g3)).length) = True := eq_true (nl0 h1)
 (try rw [show ((0 : Int)).toNat = 0 from rfl] at c1)
 (try rw [Addr.add_zero'] at c1)
 replace h0 := eq_true h0
 replace h1 := eq_true h1
 have j8 : 0 ≤ (0 : Int) := (by decide)
 have j9 : 0 < ((rd_L4 a0 (g3)).length : Int) := of_decide_eq_true (by first | exact dy2 | exact d21 | exact asm)
 obtain ⟨p7, r1, e4⟩ := Kd.at_int (cR b4) 0 j8 j9
 obtain rfl : b6 = p7 := (by injection r1)
 have E2 : (0 < (rd_L4 a0 (g3)).length) = True := eq_true (nl0 j9)
 (try rw [show ((0 : Int)).toNat = 0 from rfl] at e4)
 (try rw [Addr.add_zero'] at e4)
 replace j8 := eq_true j8
 replace j9 := eq_true j9
 have s0 : 0 ≤ (1 : Int) := (by decide)
 have s1 : 1 < ((rd_L4 a0 (g3)).length : Int) := of_decide_eq_true (by first | exact dz4 | exact dy8 | exact d25 | exact asm)
 obtain ⟨E6, N1, i9⟩ := Kd.at_int (cR b4) 1 s0 s1
 obtain rfl : b6 = E6 := (by injection N1)
 (try simp only [show (1 : Int).toNat = 1 from rfl, Nat.reduceMul, Nat.reduceEqDiff, Go.Addr.add, ↓reduceIte] at i9)
 have b22 : (1 < (rd_L4 a0 (g3)).length) = True := eq_true (nl1 s1)
 (try rw [show ((1 : Int)).toNat = 1 from rfl] at i9)
 replace s0 := eq_true s0
 replace s1 := eq_true s1
 have D3 : 0 ≤ (1 : Int) := (by decide)
 have D4 : 1 < ((rd_L4 a0 (g3)).length : Int) := of_decide_eq_true (by first | exact dz4 | exact dy8 | exact d25 | exact asm)
 obtain ⟨Z8, ah0, n5⟩ := Kd.at_int (cR b4) 1 D3 D4
 obtain rfl : b6 = Z8 := (by injection ah0)
 (try simp only [show (1 : Int).toNat = 1 from rfl, Nat.reduceMul, Nat.reduceEqDiff, Go.Addr.add, ↓reduceIte] at n5)
 have bi7 : (1 < (rd_L4 a0 (g3)).length) = True := eq_true (nl1 D4)
 (try rw [show ((1 : Int)).toNat = 1 from rfl] at n5)
 replace D3 := eq_true D3
 replace D4 := eq_true D4
 have ah1 : 0 ≤ (1 : Int) := (by decide)
 have ah2 : 1 < ((rd_L4 a0 (g3)).length : Int) := of_decide_eq_true (by first | exact dz4 | exact dy8 | exact d25 | exact asm)
 obtain ⟨bi8, bu5, C3⟩ := Kd.at_int (cR b4) 1 ah1 ah2
 obtain rfl : b6 = bi8 := (by injection bu5)
 (try simp only [show (1 : Int).toNat = 1 from rfl, Nat.reduceMul, Nat.reduceEqDiff, Go.Addr.add, ↓reduceIte] at C3)
 have h14 : (1 < (rd_L4 a0 (g3)).length) = True := eq_true (nl1 ah2)
 (try rw [show ((1 : Int)).toNat = 1 from rfl] at C3)
 replace ah1 := eq_true ah1
 replace ah2 := eq_true ah2
 have ah3 : 0 ≤ (1 : Int) := (by decide)
 have ah4 : 1 < ((rd_L4 a0 (g3)).length : Int) := of_decide_eq_true (by first | exact dz4 | exact dy8 | exact d25 | exact asm)
 obtain ⟨bi9, bu6, C4⟩ := Kd.at_int (cR b4) 1 ah3 ah4
 obtain rfl : b6 = bi9 := (by injection bu6)
 (try simp only [show (1 : Int).toNat = 1 from rfl, Nat.reduceMul, Nat.reduceEqDiff, Go.Addr.add, ↓reduceIte] at C4)
 have h15 : (1 < (rd_L4 a0 (g3)).length) = True := eq_true (nl1 ah4)
 (try rw [show ((1 : Int)).toNat = 1 from rfl] at C4)
 replace ah3 := eq_true ah3
 replace ah4 := eq_true ah4
 have ah5 : 0 ≤ (1 : Int) := (by decide)
 have ah6 : 1 < ((rd_L4 a0 (b9)).length : Int) := of_decide_eq_true (by first | exact dz6 | exact dz0 | exact asm)
 obtain ⟨b23, bu7, C5⟩ := Kd.at_int (cR c4) 1 ah5 ah6
 cases bu7
 (try simp only [show (1 : Int).toNat = 1 from rfl, Nat.reduceMul, Nat.reduceEqDiff, Go.Addr.add, ↓reduceIte] at C5)
 have h16 : (1 < (rd_L4 a0 (b9)).length) = True := eq_true (nl1 ah6)
 (try rw [show ((1 : Int)).toNat = 1 from rfl] at C5)
 replace ah5 := eq_true ah5
 replace ah6 := eq_true ah6
 as_aux_lemma => (
 refine st_ 56 laws_FnBeamsGoOfAll.pl5 (S := fun w' => w'.cell? ⟨e9, 0, none⟩ = some (.int .i64 a0_0) ∧ w'.cell? ⟨e9, 1, none⟩ = some (.int .i64 a0_1) ∧ w'.cell? b6 = some (.int .i64 (rd (rd_L4 a0 (g3)) 0)) ∧ w'.cell? b6 = some (.int .i64 (rd (rd_L4 a0 (g3)) 0)) ∧ w'.cell? ⟨b6.block, b6.off + 1, none⟩ = some (.int .i64 (rd (rd_L4 a0 (g3)) 1)) ∧ w'.cell? ⟨b6.block, b6.off + 1, none⟩ = some (.int .i64 (rd (rd_L4 a0 (g3)) 1)) ∧ w'.cell? ⟨b6.block, b6.off + 1, none⟩ = some (.int .i64 (rd (rd_L4 a0 (g3)) 1)) ∧ w'.cell? ⟨b6.block, b6.off + 1, none⟩ = some (.int .i64 (rd (rd_L4 a0 (g3)) 1)) ∧ w'.cell? ⟨b23.block, b23.off + 1, none⟩ = some (.int .i64 (rd (rd_L4 a0 (b9)) 1))) (ds := []) laws_FnBeamsGoOfAll.tab42 laws_FnBeamsGoOfAll.bits42 ⟨cb a1 0, cb a1 1, c1, e4, i9, n5, C3, C4, C5⟩ (fun hHeld HT_ HW_ => ?_)
 generalize wc.drew = h54 at b5 c9 a1 a4 a7 b0 a8 b1 b2 b3 b4 b7 c4 HB c1 e4 i9 n5 C3 C4 C5 hHeld ⊢
 iterate 56 (first | refine rA HT_ ?_ | refine rB HT_ ?_ | refine rT HT_ HW_ hHeld ?_)
 refine pD HT_ ?_
 repeat (go_not_at_region 11; go_not_at_region 17; go_not_at_region 26; go_not_at_region 27; go_not_at_region 42; go_not_at_region 78; go_not_at_region 81; first | go_skip | go_guarded | go_step | go_upon)
 (try rw [dSet])
 go_roundg p9
 case measure => exact laws_FnBeamsGoOfAll.jx
 case rel => exact ⟨(j7), (wrap64 (a3 + 1)), sR, sR, H', ⟨laws_FnBeamsGoOfAll.jx⟩, ⟨oS b5⟩, (bA a1), (bA a4), (bA a7), (bA b0), (bA a8), (bA b1), (bA b2), (bA b3), ⟨bB⟩⟩
 )
 )
 rw [if_neg Z7] at H
 exact fy HT_l H
 )
 rw [if_neg Z6] at H
 exact absurd H (by simp)
 )
 rw [if_neg G1] at H
 have be8 : decide ((rd (rd_L4 a0 (g3)) 1) < a0_1) = false := decide_eq_false G1
 clear G1
 have H' := Aside0.mk H
 clear H
 have g1 : 0 ≤ ((b9) : Int) := of_decide_eq_true asm
 have g2 : (b9) < (a0.length : Int) := of_decide_eq_true (by first | exact dy1 | exact asm)
 obtain ⟨l1, q2, q3, m2, h3, e7, e8⟩ := at_L4 (Kd.S_reads' b5.out).2.2 (b9) g1 g2
 obtain rfl : l0 = l1 := (by injection m2)
 obtain ⟨u9, i2, i3, g4⟩ := Kd.S_get b5.out [] (b9) g1 (by first | exact g2 | exact of_decide_eq_true asm | (have e_ := (Kd.S_reads' b5.out).1; omega))
 obtain ⟨o5, rfl, c8⟩ := i3
 have c0 := g4 0 _ rfl
 rw [Nat.add_zero, show ((Kd.slice 3 (Kd.int .i64))).sz = 1 from rfl, Nat.mul_one] at c0
 replace c0 := Option.some.inj (c0.symm.trans h3)
 rw [c0] at c8
 have c9 := Aside0.mk (show Kd.R (Kd.int .i64) 3 _ _ _ _ (rd_L4 a0 (b9)) from c8)
 clear c0 c8 g4 i2
 have c4 := Aside0.mk e8
 have o6 := Aside0.mk e7
 clear e8 e7
 replace g1 := eq_true g1
 replace g2 := eq_true g2
 repeat (go_not_at_region 11; go_not_at_region 17; go_not_at_region 26; go_not_at_region 27; go_not_at_region 42; go_not_at_region 78; go_not_at_region 81; first | go_skip | go_guarded | go_step | go_upon)
 replace b5 := Aside0.mk (Kd.S_drew b5.out)
 replace c9 := Aside0.mk (Kd.R_drew c9.out)
 replace a1 := bD1 a1
 replace a4 := bD1 a4
 replace a7 := bD1 a7
 replace b0 := bD1 b0
 replace a8 := bD1 a8
 replace b1 := bD1 b1
 replace b2 := bD1 b2
 replace b3 := bD1 b3
 replace b4 := Aside0.mk (Kd.C_drew b4.out)
 replace b7 := Aside0.mk (Kd.C_drew b7.out)
 replace c4 := Aside0.mk (Kd.C_drew c4.out)
 replace HB := Aside0.mk (below_drew1 HB.out)
 have h0 : 0 ≤ (0 : Int) := (by decide)
 have h1 : 0 < ((rd_L4 a0 (g3)).length : Int) := of_decide_eq_true (by first | exact dy2 | exact d21 | exact asm)
 obtain ⟨b6, m3, c1⟩ := Kd.at_int (cR b4) 0 h0 h1
 cases m3
 have v0 : (0 < (rd_L4 a0 (g3)).length) = True := eq_true (nl0 h1)
 (try rw [show ((0 : Int)).toNat = 0 from rfl] at c1)
 (try rw [Addr.add_zero'] at c1)
 replace h0 := eq_true h0
 replace h1 := eq_true h1
 have j8 : 0 ≤ (0 : Int) := (by decide)
 have j9 : 0 < ((rd_L4 a0 (g3)).length : Int) := of_decide_eq_true (by first | exact dy2 | exact d21 | exact asm)
 obtain ⟨p7, r1, e4⟩ := Kd.at_int (cR b4) 0 j8 j9
 obtain rfl : b6 = p7 := (by injection r1)
 have E2 : (0 < (rd_L4 a0 (g3)).length) = True := eq_true (nl0 j9)
 (try rw [show ((0 : Int)).toNat = 0 from rfl] at e4)
 (try rw [Addr.add_zero'] at e4)
 replace j8 := eq_true j8
 replace j9 := eq_true j9
 have s0 : 0 ≤ (1 : Int) := (by decide)
 have s1 : 1 < ((rd_L4 a0 (g3)).length : Int) := of_decide_eq_true (by first | exact dz4 | exact dy8 | exact d25 | exact asm)
 obtain ⟨E6, N1, i9⟩ := Kd.at_int (cR b4) 1 s0 s1
 obtain rfl : b6 = E6 := (by injection N1)
 (try simp only [show (1 : Int).toNat = 1 from rfl, Nat.reduceMul, Nat.reduceEqDiff, Go.Addr.add, ↓reduceIte] at i9)
 have b22 : (1 < (rd_L4 a0 (g3)).length) = True := eq_true (nl1 s1)
 (try rw [show ((1 : Int)).toNat = 1 from rfl] at i9)
 replace s0 := eq_true s0
 replace s1 := eq_true s1
 have D3 : 0 ≤ (1 : Int) := (by decide)
 have D4 : 1 < ((rd_L4 a0 (g3)).length : Int) := of_decide_eq_true (by first | exact dz4 | exact dy8 | exact d25 | exact asm)
 obtain ⟨Z8, ah0, n5⟩ := Kd.at_int (cR b4) 1 D3 D4
 obtain rfl : b6 = Z8 := (by injection ah0)
 (try simp only [show (1 : Int).toNat = 1 from rfl, Nat.reduceMul, Nat.reduceEqDiff, Go.Addr.add, ↓reduceIte] at n5)
 have bi7 : (1 < (rd_L4 a0 (g3)).length) = True := eq_true (nl1 D4)
 (try rw [show ((1 : Int)).toNat = 1 from rfl] at n5)
 replace D3 := eq_true D3
 replace D4 := eq_true D4
 as_aux_lemma => (
 refine st_ 56 laws_FnBeamsGoOfAll.pl6 (S := fun w' => w'.cell? ⟨e9, 0, none⟩ = some (.int .i64 a0_0) ∧ w'.cell? ⟨e9, 1, none⟩ = some (.int .i64 a0_1) ∧ w'.cell? b6 = some (.int .i64 (rd (rd_L4 a0 (g3)) 0)) ∧ w'.cell? b6 = some (.int .i64 (rd (rd_L4 a0 (g3)) 0)) ∧ w'.cell? ⟨b6.block, b6.off + 1, none⟩ = some (.int .i64 (rd (rd_L4 a0 (g3)) 1)) ∧ w'.cell? ⟨b6.block, b6.off + 1, none⟩ = some (.int .i64 (rd (rd_L4 a0 (g3)) 1))) (ds := []) laws_FnBeamsGoOfAll.tab42 laws_FnBeamsGoOfAll.bits42 ⟨cb a1 0, cb a1 1, c1, e4, i9, n5⟩ (fun hHeld HT_ HW_ => ?_)
 generalize wc.drew = h55 at b5 c9 a1 a4 a7 b0 a8 b1 b2 b3 b4 b7 c4 HB c1 e4 i9 n5 hHeld ⊢
 iterate 56 (first | refine rA HT_ ?_ | refine rB HT_ ?_ | refine rT HT_ HW_ hHeld ?_)
 refine pD HT_ ?_
 repeat (go_not_at_region 11; go_not_at_region 17; go_not_at_region 26; go_not_at_region 27; go_not_at_region 42; go_not_at_region 78; go_not_at_region 81; first | go_skip | go_guarded | go_step | go_upon)
 (try rw [dSet])
 go_roundg p9
 case measure => exact laws_FnBeamsGoOfAll.jx
 case rel => exact ⟨(j7), (wrap64 (a3 + 1)), sR, sR, H', ⟨laws_FnBeamsGoOfAll.jx⟩, ⟨oS b5⟩, (bA a1), (bA a4), (bA a7), (bA b0), (bA a8), (bA b1), (bA b2), (bA b3), ⟨bB⟩⟩
 )
 )
 rw [if_neg G0] at H
 have be7 : decide (0 < (rd (rd_L4 a0 (g3)) 1)) = false := decide_eq_false G0
 clear G0
 have H' := Aside0.mk H
 clear H
 have g1 : 0 ≤ ((b9) : Int) := of_decide_eq_true asm
 have g2 : (b9) < (a0.length : Int) := of_decide_eq_true (by first | exact dy1 | exact asm)
 obtain ⟨l1, q2, q3, m2, h3, e7, e8⟩ := at_L4 (Kd.S_reads' b5.out).2.2 (b9) g1 g2
 obtain rfl : l0 = l1 := (by injection m2)
 obtain ⟨u9, i2, i3, g4⟩ := Kd.S_get b5.out [] (b9) g1 (by first | exact g2 | exact of_decide_eq_true asm | (have e_ := (Kd.S_reads' b5.out).1; omega))
 obtain ⟨o5, rfl, c8⟩ := i3
 have c0 := g4 0 _ rfl
 rw [Nat.add_zero, show ((Kd.slice 3 (Kd.int .i64))).sz = 1 from rfl, Nat.mul_one] at c0
 replace c0 := Option.some.inj (c0.symm.trans h3)
 rw [c0] at c8
 have c9 := Aside0.mk (show Kd.R (Kd.int .i64) 3 _ _ _ _ (rd_L4 a0 (b9)) from c8)
 clear c0 c8 g4 i2
 have c4 := Aside0.mk e8
 have o6 := Aside0.mk e7
 clear e8 e7
 replace g1 := eq_true g1
 replace g2 := eq_true g2
 repeat (go_not_at_region 11; go_not_at_region 17; go_not_at_region 26; go_not_at_region 27; go_not_at_region 42; go_not_at_region 78; go_not_at_region 81; first | go_skip | go_guarded | go_step | go_upon)
 replace b5 := Aside0.mk (Kd.S_drew b5.out)
 replace c9 := Aside0.mk (Kd.R_drew c9.out)
 replace a1 := bD1 a1
 replace a4 := bD1 a4
 replace a7 := bD1 a7
 replace b0 := bD1 b0
 replace a8 := bD1 a8
 replace b1 := bD1 b1
 replace b2 := bD1 b2
 replace b3 := bD1 b3
 replace b4 := Aside0.mk (Kd.C_drew b4.out)
 replace b7 := Aside0.mk (Kd.C_drew b7.out)
 replace c4 := Aside0.mk (Kd.C_drew c4.out)
 replace HB := Aside0.mk (below_drew1 HB.out)
 have h0 : 0 ≤ (0 : Int) := (by decide)
 have h1 : 0 < ((rd_L4 a0 (g3)).length : Int) := of_decide_eq_true (by first | exact dy2 | exact d21 | exact asm)
 obtain ⟨b6, m3, c1⟩ := Kd.at_int (cR b4) 0 h0 h1
 cases m3
 have v0 : (0 < (rd_L4 a0 (g3)).length) = True := eq_true (nl0 h1)
 (try rw [show ((0 : Int)).toNat = 0 from rfl] at c1)
 (try rw [Addr.add_zero'] at c1)
 replace h0 := eq_true h0
 replace h1 := eq_true h1
 have j8 : 0 ≤ (0 : Int) := (by decide)
 have j9 : 0 < ((rd_L4 a0 (g3)).length : Int) := of_decide_eq_true (by first | exact dy2 | exact d21 | exact asm)
 obtain ⟨p7, r1, e4⟩ := Kd.at_int (cR b4) 0 j8 j9
 obtain rfl : b6 = p7 := (by injection r1)
 have E2 : (0 < (rd_L4 a0 (g3)).length) = True := eq_true (nl0 j9)
 (try rw [show ((0 : Int)).toNat = 0 from rfl] at e4)
 (try rw [Addr.add_zero'] at e4)
 replace j8 := eq_true j8
 replace j9 := eq_true j9
 have s0 : 0 ≤ (1 : Int) := (by decide)
 have s1 : 1 < ((rd_L4 a0 (g3)).length : Int) := of_decide_eq_true (by first | exact dz4 | exact dy8 | exact d25 | exact asm)
 obtain ⟨E6, N1, i9⟩ := Kd.at_int (cR b4) 1 s0 s1
 obtain rfl : b6 = E6 := (by injection N1)
 (try simp only [show (1 : Int).toNat = 1 from rfl, Nat.reduceMul, Nat.reduceEqDiff, Go.Addr.add, ↓reduceIte] at i9)
 have b22 : (1 < (rd_L4 a0 (g3)).length) = True := eq_true (nl1 s1)
 (try rw [show ((1 : Int)).toNat = 1 from rfl] at i9)
 replace s0 := eq_true s0
 replace s1 := eq_true s1
 as_aux_lemma => (
 refine st_ 56 laws_FnBeamsGoOfAll.pl7 (S := fun w' => w'.cell? ⟨e9, 0, none⟩ = some (.int .i64 a0_0) ∧ w'.cell? ⟨e9, 1, none⟩ = some (.int .i64 a0_1) ∧ w'.cell? b6 = some (.int .i64 (rd (rd_L4 a0 (g3)) 0)) ∧ w'.cell? b6 = some (.int .i64 (rd (rd_L4 a0 (g3)) 0)) ∧ w'.cell? ⟨b6.block, b6.off + 1, none⟩ = some (.int .i64 (rd (rd_L4 a0 (g3)) 1))) (ds := []) laws_FnBeamsGoOfAll.tab42 laws_FnBeamsGoOfAll.bits42 ⟨cb a1 0, cb a1 1, c1, e4, i9⟩ (fun hHeld HT_ HW_ => ?_)
 generalize wc.drew = h56 at b5 c9 a1 a4 a7 b0 a8 b1 b2 b3 b4 b7 c4 HB c1 e4 i9 hHeld ⊢
 iterate 56 (first | refine rA HT_ ?_ | refine rB HT_ ?_ | refine rT HT_ HW_ hHeld ?_)
 refine pD HT_ ?_
 repeat (go_not_at_region 11; go_not_at_region 17; go_not_at_region 26; go_not_at_region 27; go_not_at_region 42; go_not_at_region 78; go_not_at_region 81; first | go_skip | go_guarded | go_step | go_upon)
 (try rw [dSet])
 go_roundg p9
 case measure => exact laws_FnBeamsGoOfAll.jx
 case rel => exact ⟨(j7), (wrap64 (a3 + 1)), sR, sR, H', ⟨laws_FnBeamsGoOfAll.jx⟩, ⟨oS b5⟩, (bA a1), (bA a4), (bA a7), (bA b0), (bA a8), (bA b1), (bA b2), (bA b3), ⟨bB⟩⟩
 )
 )
 rw [if_neg Z5] at H
 exact absurd H (by simp)
 )
 rw [if_neg F6] at H
 have be3 : decide (0 < (rd (rd_L4 a0 (g3)) 0)) = false := decide_eq_false F6
 clear F6
 by_cases Z9 : 1 < ((rd_L4 a0 (g3)).length : Int)
 ·(
 rw [if_pos Z9] at H
 have e00 : decide (1 < ((rd_L4 a0 (g3)).length : Int)) = true := decide_eq_true Z9
 have e01 : decide (1 < (rd_L4 a0 (g3)).length) = true := decide_eq_true (nl1 Z9)
 clear Z9
 by_cases G2 : (rd (rd_L4 a0 (g3)) 1) > 0
 ·(
 rw [if_pos G2] at H
 have be9 : decide (0 < (rd (rd_L4 a0 (g3)) 1)) = true := decide_eq_true G2
 clear G2
 by_cases G3 : (rd (rd_L4 a0 (g3)) 1) < a0_1
 ·(
 rw [if_pos G3] at H
 have bf0 : decide ((rd (rd_L4 a0 (g3)) 1) < a0_1) = true := decide_eq_true G3
 clear G3
 by_cases a00 : 1 < ((rd_L4 a0 (b9)).length : Int)
 ·(
 rw [if_pos a00] at H
 have e02 : decide (1 < ((rd_L4 a0 (b9)).length : Int)) = true := decide_eq_true a00
 have e03 : decide (1 < (rd_L4 a0 (b9)).length) = true := decide_eq_true (nl1 a00)
 clear a00
 by_cases a01 : (wrap64 ((rd (rd_L4 a0 a3) 1) - (rd (rd_L4 a0 (g3)) 1))) = (wrap64 ((rd (rd_L4 a0 (g3)) 1) - (rd (rd_L4 a0 (b9)) 1)))
 ·(
 rw [if_pos a01] at H
 obtain ⟨e04, e05⟩ := yE a01
 clear a01
 have H' := Aside0.mk H
 clear H
 have g1 : 0 ≤ ((b9) : Int) := of_decide_eq_true asm
 have g2 : (b9) < (a0.length : Int) := of_decide_eq_true (by first | exact dy1 | exact asm)
 obtain ⟨l1, q2, q3, m2, h3, e7, e8⟩ := at_L4 (Kd.S_reads' b5.out).2.2 (b9) g1 g2
 obtain rfl : l0 = l1 := (by injection m2)
 obtain ⟨u9, i2, i3, g4⟩ := Kd.S_get b5.out [] (b9) g1 (by first | exact g2 | exact of_decide_eq_true asm | (have e_ := (Kd.S_reads' b5.out).1; omega))
 obtain ⟨o5, rfl, c8⟩ := i3
 have c0 := g4 0 _ rfl
 rw [Nat.add_zero, show ((Kd.slice 3 (Kd.int .i64))).sz = 1 from rfl, Nat.mul_one] at c0
 replace c0 := Option.some.inj (c0.symm.trans h3)
 rw [c0] at c8
 have c9 := Aside0.mk (show Kd.R (Kd.int .i64) 3 _ _ _ _ (rd_L4 a0 (b9)) from c8)
 clear c0 c8 g4 i2
 have c4 := Aside0.mk e8
 have o6 := Aside0.mk e7
 clear e8 e7
 replace g1 := eq_true g1
 replace g2 := eq_true g2
 repeat (go_not_at_region 11; go_not_at_region 17; go_not_at_region 26; go_not_at_region 27; go_not_at_region 42; go_not_at_region 78; go_not_at_region 81; first | go_skip | go_guarded | go_step | go_upon)
 replace b5 := Aside0.mk (Kd.S_drew b5.out)
 replace c9 := Aside0.mk (Kd.R_drew c9.out)
 replace a1 := bD1 a1
 replace a4 := bD1 a4
 replace a7 := bD1 a7
 replace b0 := bD1 b0
 replace a8 := bD1 a8
 replace b1 := bD1 b1
 replace b2 := bD1 b2
 replace b3 := bD1 b3
 replace b4 := Aside0.mk (Kd.C_drew b4.out)
 replace b7 := Aside0.mk (Kd.C_drew b7.out)
 replace c4 := Aside0.mk (Kd.C_drew c4.out)
 replace HB := Aside0.mk (below_drew1 HB.out)
 have h0 : 0 ≤ (0 : Int) := (by decide)
 have h1 : 0 < ((rd_L4 a0 (g3)).length : Int) := of_decide_eq_true (by first | exact dy2 | exact d21 | exact asm)
 obtain ⟨b6, m3, c1⟩ := Kd.at_int (cR b4) 0 h0 h1
 cases m3
 have v0 : (0 < (rd_L4 a0 (g3)).length) = True := eq_true (nl0 h1)
 (try rw [show ((0 : Int)).toNat = 0 from rfl] at c1)
 (try rw [Addr.add_zero'] at c1)
 replace h0 := eq_true h0
 replace h1 := eq_true h1
 have s2 : 0 ≤ (1 : Int) := (by decide)
 have s3 : 1 < ((rd_L4 a0 (g3)).length : Int) := of_decide_eq_true (by first | exact e00 | exact dz4 | exact dy8 | exact asm)
 obtain ⟨E7, N2, j0⟩ := Kd.at_int (cR b4) 1 s2 s3
 obtain rfl : b6 = E7 := (by injection N2)
 (try simp only [show (1 : Int).toNat = 1 from rfl, Nat.reduceMul, Nat.reduceEqDiff, Go.Addr.add, ↓reduceIte] at j0)
 have b24 : (1 < (rd_L4 a0 (g3)).length) = True := eq_true (nl1 s3)
 (try rw [show ((1 : Int)).toNat = 1 from rfl] at j0)
 replace s2 := eq_true s2
 replace s3 := eq_true s3
 have D5 : 0 ≤ (1 : Int) := (by decide)
 have D6 : 1 < ((rd_L4 a0 (g3)).length : Int) := of_decide_eq_true (by first | exact e00 | exact dz4 | exact dy8 | exact asm)
 obtain ⟨a02, ah7, n6⟩ := Kd.at_int (cR b4) 1 D5 D6
 obtain rfl : b6 = a02 := (by injection ah7)
 (try simp only [show (1 : Int).toNat = 1 from rfl, Nat.reduceMul, Nat.reduceEqDiff, Go.Addr.add, ↓reduceIte] at n6)
 have bj0 : (1 < (rd_L4 a0 (g3)).length) = True := eq_true (nl1 D6)
 (try rw [show ((1 : Int)).toNat = 1 from rfl] at n6)
 replace D5 := eq_true D5
 replace D6 := eq_true D6
 have ah8 : 0 ≤ (1 : Int) := (by decide)
 have ah9 : 1 < ((rd_L4 a0 (g3)).length : Int) := of_decide_eq_true (by first | exact e00 | exact dz4 | exact dy8 | exact asm)
 obtain ⟨bj1, bu8, C6⟩ := Kd.at_int (cR b4) 1 ah8 ah9
 obtain rfl : b6 = bj1 := (by injection bu8)
 (try simp only [show (1 : Int).toNat = 1 from rfl, Nat.reduceMul, Nat.reduceEqDiff, Go.Addr.add, ↓reduceIte] at C6)
 have h17 : (1 < (rd_L4 a0 (g3)).length) = True := eq_true (nl1 ah9)
 (try rw [show ((1 : Int)).toNat = 1 from rfl] at C6)
 replace ah8 := eq_true ah8
 replace ah9 := eq_true ah9
 have ai0 : 0 ≤ (1 : Int) := (by decide)
 have ai1 : 1 < ((rd_L4 a0 (g3)).length : Int) := of_decide_eq_true (by first | exact e00 | exact dz4 | exact dy8 | exact asm)
 obtain ⟨bj2, bu9, C7⟩ := Kd.at_int (cR b4) 1 ai0 ai1
 obtain rfl : b6 = bj2 := (by injection bu9)
 (try simp only [show (1 : Int).toNat = 1 from rfl, Nat.reduceMul, Nat.reduceEqDiff, Go.Addr.add, ↓reduceIte] at C7)
 have h18 : (1 < (rd_L4 a0 (g3)).length) = True := eq_true (nl1 ai1)
 (try rw [show ((1 : Int)).toNat = 1 from rfl] at C7)
 replace ai0 := eq_true ai0
 replace ai1 := eq_true ai1
 have ai2 : 0 ≤ (1 : Int) := (by decide)
 have ai3 : 1 < ((rd_L4 a0 (b9)).length : Int) := of_decide_eq_true (by first | exact e02 | exact dz6 | exact dz0 | exact asm)
 obtain ⟨b25, bv0, C8⟩ := Kd.at_int (cR c4) 1 ai2 ai3
 cases bv0
 (try simp only [show (1 : Int).toNat = 1 from rfl, Nat.reduceMul, Nat.reduceEqDiff, Go.Addr.add, ↓reduceIte] at C8)
 have h19 : (1 < (rd_L4 a0 (b9)).length) = True := eq_true (nl1 ai3)
 (try rw [show ((1 : Int)).toNat = 1 from rfl] at C8)
 replace ai2 := eq_true ai2
 replace ai3 := eq_true ai3
 as_aux_lemma => (
 refine st_ 56 laws_FnBeamsGoOfAll.pl8 (S := fun w' => w'.cell? ⟨e9, 0, none⟩ = some (.int .i64 a0_0) ∧ w'.cell? ⟨e9, 1, none⟩ = some (.int .i64 a0_1) ∧ w'.cell? b6 = some (.int .i64 (rd (rd_L4 a0 (g3)) 0)) ∧ w'.cell? ⟨b6.block, b6.off + 1, none⟩ = some (.int .i64 (rd (rd_L4 a0 (g3)) 1)) ∧ w'.cell? ⟨b6.block, b6.off + 1, none⟩ = some (.int .i64 (rd (rd_L4 a0 (g3)) 1)) ∧ w'.cell? ⟨b6.block, b6.off + 1, none⟩ = some (.int .i64 (rd (rd_L4 a0 (g3)) 1)) ∧ w'.cell? ⟨b6.block, b6.off + 1, none⟩ = some (.int .i64 (rd (rd_L4 a0 (g3)) 1)) ∧ w'.cell? ⟨b25.block, b25.off + 1, none⟩ = some (.int .i64 (rd (rd_L4 a0 (b9)) 1))) (ds := []) laws_FnBeamsGoOfAll.tab42 laws_FnBeamsGoOfAll.bits42 ⟨cb a1 0, cb a1 1, c1, j0, n6, C6, C7, C8⟩ (fun hHeld HT_ HW_ => ?_)
 generalize wc.drew = h57 at b5 c9 a1 a4 a7 b0 a8 b1 b2 b3 b4 b7 c4 HB c1 j0 n6 C6 C7 C8 hHeld ⊢
 iterate 56 (first | refine rA HT_ ?_ | refine rB HT_ ?_ | refine rT HT_ HW_ hHeld ?_)
 refine pD HT_ ?_
 repeat (go_not_at_region 11; go_not_at_region 17; go_not_at_region 26; go_not_at_region 27; go_not_at_region 42; go_not_at_region 78; go_not_at_region 81; first | go_skip | go_guarded | go_step | go_upon)
 (try rw [dSet])
 go_roundg p9
 case measure => exact laws_FnBeamsGoOfAll.jx
 case rel => exact ⟨(j7), (wrap64 (a3 + 1)), sR, sR, H', ⟨laws_FnBeamsGoOfAll.jx⟩, ⟨oS b5⟩, (bA a1), (bA a4), (bA a7), (bA b0), (bA a8), (bA b1), (bA b2), (bA b3), ⟨bB⟩⟩
 )
 )
 rw [if_neg a01] at H
 exact fy HT_l H
 )
 rw [if_neg a00] at H
 exact absurd H (by simp)
 )
 rw [if_neg G3] at H
 have bf0 : decide ((rd (rd_L4 a0 (g3)) 1) < a0_1) = false := decide_eq_false G3
 clear G3
 have H' := Aside0.mk H
 clear H
 have g1 : 0 ≤ ((b9) : Int) := of_decide_eq_true asm
 have g2 : (b9) < (a0.length : Int) := of_decide_eq_true (by first | exact dy1 | exact asm)
 obtain ⟨l1, q2, q3, m2, h3, e7, e8⟩ := at_L4 (Kd.S_reads' b5.out).2.2 (b9) g1 g2
 obtain rfl : l0 = l1 := (by injection m2)
 obtain ⟨u9, i2, i3, g4⟩ := Kd.S_get b5.out [] (b9) g1 (by first | exact g2 | exact of_decide_eq_true asm | (have e_ := (Kd.S_reads' b5.out).1; omega))
 obtain ⟨o5, rfl, c8⟩ := i3
 have c0 := g4 0 _ rfl
 rw [Nat.add_zero, show ((Kd.slice 3 (Kd.int .i64))).sz = 1 from rfl, Nat.mul_one] at c0
 replace c0 := Option.some.inj (c0.symm.trans h3)
 rw [c0] at c8
 have c9 := Aside0.mk (show Kd.R (Kd.int .i64) 3 _ _ _ _ (rd_L4 a0 (b9)) from c8)
 clear c0 c8 g4 i2
 have c4 := Aside0.mk e8
 have o6 := Aside0.mk e7
 clear e8 e7
 replace g1 := eq_true g1
 replace g2 := eq_true g2
 repeat (go_not_at_region 11; go_not_at_region 17; go_not_at_region 26; go_not_at_region 27; go_not_at_region 42; go_not_at_region 78; go_not_at_region 81; first | go_skip | go_guarded | go_step | go_upon)
 replace b5 := Aside0.mk (Kd.S_drew b5.out)
 replace c9 := Aside0.mk (Kd.R_drew c9.out)
 replace a1 := bD1 a1
 replace a4 := bD1 a4
 replace a7 := bD1 a7
 replace b0 := bD1 b0
 replace a8 := bD1 a8
 replace b1 := bD1 b1
 replace b2 := bD1 b2
 replace b3 := bD1 b3
 replace b4 := Aside0.mk (Kd.C_drew b4.out)
 replace b7 := Aside0.mk (Kd.C_drew b7.out)
 replace c4 := Aside0.mk (Kd.C_drew c4.out)
 replace HB := Aside0.mk (below_drew1 HB.out)
 have h0 : 0 ≤ (0 : Int) := (by decide)
 have h1 : 0 < ((rd_L4 a0 (g3)).length : Int) := of_decide_eq_true (by first | exact dy2 | exact d21 | exact asm)
 obtain ⟨b6, m3, c1⟩ := Kd.at_int (cR b4) 0 h0 h1
 cases m3
 have v0 : (0 < (rd_L4 a0 (g3)).length) = True := eq_true (nl0 h1)
 (try rw [show ((0 : Int)).toNat = 0 from rfl] at c1)
 (try rw [Addr.add_zero'] at c1)
 replace h0 := eq_true h0
 replace h1 := eq_true h1
 have s2 : 0 ≤ (1 : Int) := (by decide)
 have s3 : 1 < ((rd_L4 a0 (g3)).length : Int) := of_decide_eq_true (by first | exact e00 | exact dz4 | exact dy8 | exact asm)
 obtain ⟨E7, N2, j0⟩ := Kd.at_int (cR b4) 1 s2 s3
 obtain rfl : b6 = E7 := (by injection N2)
 (try simp only [show (1 : Int).toNat = 1 from rfl, Nat.reduceMul, Nat.reduceEqDiff, Go.Addr.add, ↓reduceIte] at j0)
 have b24 : (1 < (rd_L4 a0 (g3)).length) = True := eq_true (nl1 s3)
 (try rw [show ((1 : Int)).toNat = 1 from rfl] at j0)
 replace s2 := eq_true s2
 replace s3 := eq_true s3
 have D5 : 0 ≤ (1 : Int) := (by decide)
 have D6 : 1 < ((rd_L4 a0 (g3)).length : Int) := of_decide_eq_true (by first | exact e00 | exact dz4 | exact dy8 | exact asm)
 obtain ⟨a02, ah7, n6⟩ := Kd.at_int (cR b4) 1 D5 D6
 obtain rfl : b6 = a02 := (by injection ah7)
 (try simp only [show (1 : Int).toNat = 1 from rfl, Nat.reduceMul, Nat.reduceEqDiff, Go.Addr.add, ↓reduceIte] at n6)
 have bj0 : (1 < (rd_L4 a0 (g3)).length) = True := eq_true (nl1 D6)
 (try rw [show ((1 : Int)).toNat = 1 from rfl] at n6)
 replace D5 := eq_true D5
 replace D6 := eq_true D6
 as_aux_lemma => (
 refine st_ 56 laws_FnBeamsGoOfAll.pl9 (S := fun w' => w'.cell? ⟨e9, 0, none⟩ = some (.int .i64 a0_0) ∧ w'.cell? ⟨e9, 1, none⟩ = some (.int .i64 a0_1) ∧ w'.cell? b6 = some (.int .i64 (rd (rd_L4 a0 (g3)) 0)) ∧ w'.cell? ⟨b6.block, b6.off + 1, none⟩ = some (.int .i64 (rd (rd_L4 a0 (g3)) 1)) ∧ w'.cell? ⟨b6.block, b6.off + 1, none⟩ = some (.int .i64 (rd (rd_L4 a0 (g3)) 1))) (ds := []) laws_FnBeamsGoOfAll.tab42 laws_FnBeamsGoOfAll.bits42 ⟨cb a1 0, cb a1 1, c1, j0, n6⟩ (fun hHeld HT_ HW_ => ?_)
 generalize wc.drew = h58 at b5 c9 a1 a4 a7 b0 a8 b1 b2 b3 b4 b7 c4 HB c1 j0 n6 hHeld ⊢
 iterate 56 (first | refine rA HT_ ?_ | refine rB HT_ ?_ | refine rT HT_ HW_ hHeld ?_)
 refine pD HT_ ?_
 repeat (go_not_at_region 11; go_not_at_region 17; go_not_at_region 26; go_not_at_region 27; go_not_at_region 42; go_not_at_region 78; go_not_at_region 81; first | go_skip | go_guarded | go_step | go_upon)
 (try rw [dSet])
 go_roundg p9
 case measure => exact laws_FnBeamsGoOfAll.jx
 case rel => exact ⟨(j7), (wrap64 (a3 + 1)), sR, sR, H', ⟨laws_FnBeamsGoOfAll.jx⟩, ⟨oS b5⟩, (bA a1), (bA a4), (bA a7), (bA b0), (bA a8), (bA b1), (bA b2), (bA b3), ⟨bB⟩⟩
 )
 )
 rw [if_neg G2] at H
 have be9 : decide (0 < (rd (rd_L4 a0 (g3)) 1)) = false := decide_eq_false G2
 clear G2
 have H' := Aside0.mk H
 clear H
 have g1 : 0 ≤ ((b9) : Int) := of_decide_eq_true asm
 have g2 : (b9) < (a0.length : Int) := of_decide_eq_true (by first | exact dy1 | exact asm)
 obtain ⟨l1, q2, q3, m2, h3, e7, e8⟩ := at_L4 (Kd.S_reads' b5.out).2.2 (b9) g1 g2
 obtain rfl : l0 = l1 := (by injection m2)
 obtain ⟨u9, i2, i3, g4⟩ := Kd.S_get b5.out [] (b9) g1 (by first | exact g2 | exact of_decide_eq_true asm | (have e_ := (Kd.S_reads' b5.out).1; omega))
 obtain ⟨o5, rfl, c8⟩ := i3
 have c0 := g4 0 _ rfl
 rw [Nat.add_zero, show ((Kd.slice 3 (Kd.int .i64))).sz = 1 from rfl, Nat.mul_one] at c0
 replace c0 := Option.some.inj (c0.symm.trans h3)
 rw [c0] at c8
 have c9 := Aside0.mk (show Kd.R (Kd.int .i64) 3 _ _ _ _ (rd_L4 a0 (b9)) from c8)
 clear c0 c8 g4 i2
 have c4 := Aside0.mk e8
 have o6 := Aside0.mk e7
 clear e8 e7
 replace g1 := eq_true g1
 replace g2 := eq_true g2
 repeat (go_not_at_region 11; go_not_at_region 17; go_not_at_region 26; go_not_at_region 27; go_not_at_region 42; go_not_at_region 78; go_not_at_region 81; first | go_skip | go_guarded | go_step | go_upon)
 replace b5 := Aside0.mk (Kd.S_drew b5.out)
 replace c9 := Aside0.mk (Kd.R_drew c9.out)
 replace a1 := bD1 a1
 replace a4 := bD1 a4
 replace a7 := bD1 a7
 replace b0 := bD1 b0
 replace a8 := bD1 a8
 replace b1 := bD1 b1
 replace b2 := bD1 b2
 replace b3 := bD1 b3
 replace b4 := Aside0.mk (Kd.C_drew b4.out)
 replace b7 := Aside0.mk (Kd.C_drew b7.out)
 replace c4 := Aside0.mk (Kd.C_drew c4.out)
 replace HB := Aside0.mk (below_drew1 HB.out)
 have h0 : 0 ≤ (0 : Int) := (by decide)
 have h1 : 0 < ((rd_L4 a0 (g3)).length : Int) := of_decide_eq_true (by first | exact dy2 | exact d21 | exact asm)
 obtain ⟨b6, m3, c1⟩ := Kd.at_int (cR b4) 0 h0 h1
 cases m3
 have v0 : (0 < (rd_L4 a0 (g3)).length) = True := eq_true (nl0 h1)
 (try rw [show ((0 : Int)).toNat = 0 from rfl] at c1)
 (try rw [Addr.add_zero'] at c1)
 replace h0 := eq_true h0
 replace h1 := eq_true h1
 have s2 : 0 ≤ (1 : Int) := (by decide)
 have s3 : 1 < ((rd_L4 a0 (g3)).length : Int) := of_decide_eq_true (by first | exact e00 | exact dz4 | exact dy8 | exact asm)
 obtain ⟨E7, N2, j0⟩ := Kd.at_int (cR b4) 1 s2 s3
 obtain rfl : b6 = E7 := (by injection N2)
 (try simp only [show (1 : Int).toNat = 1 from rfl, Nat.reduceMul, Nat.reduceEqDiff, Go.Addr.add, ↓reduceIte] at j0)
 have b24 : (1 < (rd_L4 a0 (g3)).length) = True := eq_true (nl1 s3)
 (try rw [show ((1 : Int)).toNat = 1 from rfl] at j0)
 replace s2 := eq_true s2
 replace s3 := eq_true s3
 as_aux_lemma => (
 refine st_ 56 laws_FnBeamsGoOfAll.pl10 (S := fun w' => w'.cell? b6 = some (.int .i64 (rd (rd_L4 a0 (g3)) 0)) ∧ w'.cell? ⟨b6.block, b6.off + 1, none⟩ = some (.int .i64 (rd (rd_L4 a0 (g3)) 1))) (ds := []) laws_FnBeamsGoOfAll.tab42 laws_FnBeamsGoOfAll.bits42 ⟨c1, j0⟩ (fun hHeld HT_ HW_ => ?_)
 generalize wc.drew = h59 at b5 c9 a1 a4 a7 b0 a8 b1 b2 b3 b4 b7 c4 HB c1 j0 hHeld ⊢
 iterate 56 (first | refine rA HT_ ?_ | refine rB HT_ ?_ | refine rT HT_ HW_ hHeld ?_)
 refine pD HT_ ?_
 repeat (go_not_at_region 11; go_not_at_region 17; go_not_at_region 26; go_not_at_region 27; go_not_at_region 42; go_not_at_region 78; go_not_at_region 81; first | go_skip | go_guarded | go_step | go_upon)
 (try rw [dSet])
 go_roundg p9
 case measure => exact laws_FnBeamsGoOfAll.jx
 case rel => exact ⟨(j7), (wrap64 (a3 + 1)), sR, sR, H', ⟨laws_FnBeamsGoOfAll.jx⟩, ⟨oS b5⟩, (bA a1), (bA a4), (bA a7), (bA b0), (bA a8), (bA b1), (bA b2), (bA b3), ⟨bB⟩⟩
 )
 )
 rw [if_neg Z9] at H
 exact absurd H (by simp)
 )
 rw [if_neg Y8] at H
 exact absurd H (by simp)
 )
 rw [if_neg Y7] at H
 exact absurd H (by simp)
 )
 rw [if_neg Y6] at H
 exact absurd H (by simp)
 )
 rw [if_neg F5] at H
 have be2 : decide (1 < a3) = false := decide_eq_false F5
 clear F5
 have H' := Aside0.mk H
 clear H
 repeat (go_not_at_region 11; go_not_at_region 17; go_not_at_region 26; go_not_at_region 27; go_not_at_region 42; go_not_at_region 78; go_not_at_region 81; first | go_skip | go_guarded | go_step | go_upon)
 go_roundg p9
 case measure => exact laws_FnBeamsGoOfAll.jx
 case rel => exact ⟨(j7), (wrap64 (a3 + 1)), sR, sR, H', ⟨laws_FnBeamsGoOfAll.jx⟩, ⟨oS b5⟩, (bA a1), (bA a4), (bA a7), (bA b0), (bA a8), (bA b1), (bA b2), (bA b3), ⟨bB⟩⟩
 )
 )
 )
 )
 )
 )
 )
 )
 )
 )
 )
 )
 )
 rw [if_neg T6] at H
 exact absurd H (by simp)
 )
 rw [if_neg T5] at H
 exact absurd H (by simp)
 )
 rw [if_neg T4] at H
 exact absurd H (by simp)
 )
 rw [if_neg T3] at H
 exact absurd H (by simp)
 )
 rw [if_neg T2] at H
 exact absurd H (by simp)
 )
 rw [if_neg F2] at H
 have a61 : decide (a3 < (a0.length : Int)) = false := decide_eq_false F2
 clear F2
 by_cases a03 : b8 = (d5.size : Int)
 ·(
 rw [if_pos a03] at H
 obtain ⟨e06, e07⟩ := yE a03
 clear a03
 have H' := Aside0.mk H
 clear H
 obtain ⟨h20, h21, bj3⟩ := Kd.S_slice b5.out
 subst bj3
 repeat (go_not_at_region 11; go_not_at_region 17; go_not_at_region 26; go_not_at_region 27; go_not_at_region 42; go_not_at_region 78; go_not_at_region 81; first | go_skip | go_guarded | go_step | go_upon)
 go_meet
 case rel => exact ⟨_, H', ⟨laws_FnBeamsGoOfAll.jx⟩, (bA a1), (bA a4), (bA a7), (bA b0), (bA a8), (bA b1), (bA b2), (bA b3), ⟨bB⟩⟩
 )
 rw [if_neg a03] at H
 exact fy HT_l H
 )
 )
 )
 )
 replace J8 := Bool.eq_false_iff.mpr J8
 subst J8
 rw [if_neg nft] at H
 exact fy HT_l H
 )
 )
 )
 )
 )
 )
 )
 replace J7 := Bool.eq_false_iff.mpr J7
 subst J7
 rw [if_neg nft] at H
 have H' := Aside0.mk H
 clear H
 repeat (go_not_at_region 11; go_not_at_region 17; go_not_at_region 26; go_not_at_region 27; go_not_at_region 42; go_not_at_region 78; go_not_at_region 81; first | go_skip | go_guarded | go_step | go_upon)
 go_meet
 case rel => exact ⟨_, H', ⟨laws_FnBeamsGoOfAll.jx⟩, (bA a1), (bA a4), (bA a7), (bA b0), (bA a8), (bA b1), (bA b2), (bA b3), ⟨bB⟩⟩
 )
 )
 clear R3
 obtain ⟨kq, HA, HJ152, a1, a4, a7, b0, a8, b1, b2, b3, HB⟩ := hcut
 rename_i K_ aK_
 exact aK_ _ _ (hR_ k a0_0 a0_1 a1_0 a1_1 a1_2 a1_3 a2 a3_0 a3_1 a4_0 a4_1 a4_2 a4_3 a5 a6 a7_0 a7_1 a8_0 a8_1 a8_2 a8_3 a9 r w a0 C9 P1 b50 n7 n8 b53 b54 l3 l9 b57 b58 l4 l7 b61 b62 g5 g6 g7 g8 ae1 h8 h9 i0 i1 b65 e9 h2 k0 k1 h4 k2 D0 b67 g9 e3 u148 u149 u150 u151 u152 u153 u154 u155 u156 u157 u158 u159 u160 u161 u162 u163 u164 u165 u166 u167 u168 u169 u170 u171 u172 u173 u174 u175 u176 u177 u178 u179 u180 u181 u182 u183 u184 u185 u186 u187 u188 u189 u190 u191 u192 u193 u194 u195 u196 u197 u198 u199 u200 u201 u202 u203 u204 u205 u206 u207 u208 u209 u210 u211 u212 u213 u214 u215 u216 u217 u218 u219 u220 u221 u222 u223 u224 u225 u226 u227 u228 u229 u230 u231 u232 u233 u234 u235 u236 u237 u238 u239 u240 u241 u242 u243 u244 u245 u246 u247 u248 u249 u250 u251 u252 u253 u254 b76 wc u20 u41 u42 u43 u44 u45 u46 u47 u48 u49 u50 u51 u52 u256 u257 u258 u259 u260 u261 u262 u263 u264 u265 u266 u267 u268 u269 u270 u271 u272 u273 u274 u275 u276 u277 u278 u279 u280 u281 u282 u283 u284 u285 u286 u287 u288 u289 u290 u291 u292 u293 u294 u295 u296 u297 u298 u299 u300 u301 u302 u303 u304 u305 u306 u307 u308 u309 u310 u311 u312 u313 u314 u315 u316 u317 u318 u319 u320 u321 u322 u323 u324 u325 u326 u327 u328 u329 u330 u331 u332 u333 u334 u335 u336 u337 u338 u339 u340 u341 u342 u343 u344 u345 u346 u347 u348 u349 u350 u351 u352 u353 u354 u355 u356 u357 u358 u359 u360 u361 u362 u363 u364 u365 u366 u367 u368 u369 u370 u371 u372 u373 u374 u375 u376 u377 u378 u379 u380 u381 u382 u383 u384 u385 u386 u387 u388 u389 u390 u391 u392 u393 u394 u395 u396 u397 u398 u399 u400 u401 u402 u403 u404 u405 u406 u407 u408 u409 u410 u411 u412 u413 u414 u415 u416 u417 u418 u419 u420 u421 u422 u423 u424 u425 u426 u427 u428 u429 u430 u431 u432 u433 u434 u435 u436 u437 u438 u439 u440 u441 u442 u443 u444 u445 u446 u447 u448 u449 u450 u451 u452 u453 u454 u455 u456 u457 u458 u459 u460 u461 u462 u463 u464 u465 u466 u467 u468 u469 u470 u471 u472 u473 u474 u475 u476 u477 u478 u479 u480 u481 u482 u483 u484 u485 u486 u487 u488 u489 u490 u491 u492 u493 u494 u495 u496 u497 u498 u499 u500 u501 u502 u503 u504 u505 u506 u507 u508 u509 u510 u511 u512 u513 kq HT_l A11 A12 A13 A14 A15 A16 A17 A18 A19 A20 gq9 gr0 gr1 gr2 d6 d7 gr3 gr4 d1 d2 o1 o2 gr5 gr6 d3 d4 o3 o4 G8 G9 gr7 gr8 c2 c3 h6 h7 k3 k4 k6 k7 gr9 gs0 c6 c7 m0 m1 s4 s5 s6 s7 l5 l6 gt9 gu0 d9 e0 s8 s9 u0 u1 u2 u3 j1 j2 q0 q1 gv3 gv4 e1 e2 u4 u5 z1 z2 z3 z4 k8 k9 u6 u7 I0 I1 HJ20 HA HJ152 a1 a4 a7 b0 a8 b1 b2 b3 HB)
 )
 )
end Go.Proofs.Ythfbjofmcniogaa.PFnBeamsGoOfAll
