-- Written by split3.py: the law's walk behind cut 1.
import Derived.Test.YthfbjofmcniogaaVN
import Derived.Test.YthfbjofmcniogaaVG
import Derived.Test.YthfbjofmcniogaaVT
import Derived.Test.YthfbjofmcniogaaPFnBeamsGox0
import Derived.Test.YthfbjofmcniogaaPFnBeamsGox1
import Derived.Test.YthfbjofmcniogaaPFnBeamsGox6
import Derived.Test.YthfbjofmcniogaaPFnBeamsGox9
import Derived.Test.YthfbjofmcniogaaPFnBeamsGox10
import Derived.Test.YthfbjofmcniogaaPFnBeamsGox11
import Derived.Test.YthfbjofmcniogaaPFnBeamsGox12
import Derived.Test.YthfbjofmcniogaaPFnBeamsGox13
import Derived.Test.YthfbjofmcniogaaPFnBeamsGox14
import Derived.Test.YthfbjofmcniogaaPFnBeamsGox15
import Derived.Test.YthfbjofmcniogaaPFnBeamsGox16
import Derived.Test.YthfbjofmcniogaaPFnBeamsGox18
import Derived.Test.YthfbjofmcniogaaPFnBeamsGox19
import Derived.Test.YthfbjofmcniogaaPFnBeamsGox20
namespace Go.Proofs.Ythfbjofmcniogaa.PFnBeamsGo
open Go.Proofs.YthfbjofmcniogaaV Go.RowKit Go.Proofs.YthfbjofmcniogaaW.PrintWords Go.Proofs.YthfbjofmcniogaaW.PrintLast Go.Proofs.YthfbjofmcniogaaW.PrintMore
attribute [local go_sem] max2_int min2_int max_two min_two max_three min_three max_four min_four   -- for this text's walks alone
attribute [local go_sem ↓] rdl_zero rdl_succ eval_lit
set_option linter.unusedVariables false
set_option linter.unusedSimpArgs false
attribute [local go_sem high] eqA30
set_option maxHeartbeats 100000000 in
set_option maxRecDepth 100000 in
theorem laws_FnBeamsGo.rest1 (hR_ : laws_FnBeamsGo.RestSaid2) : laws_FnBeamsGo.RestSaid1 := by
 intro k A0 c0 l0 A1 c1 l1 r w b9 b6 c7 c8 c9 d0 q4 a2 E8 T9 b67 o8 o9 b68 b69 k9 n1 b71 b72 l2 m3 b75 b76 g6 g7 g8 g9 ae7 h7 h8 h9 i0 b79 e8 h4 E9 b81 h0 e2 wc u151 u152 u153 u154 u155 u156 u157 u158 u159 u160 u161 u162 u163 u164 u165 u166 u167 u168 u169 u170 u171 u172 u173 u174 u175 u176 u177 u178 u179 u180 u181 u182 u183 u184 u185 u186 u187 u188 u189 u190 u191 u192 u193 u194 u195 u196 u197 u198 u199 u200 u201 u202 u203 u204 u205 u206 u207 u208 u209 u210 u211 u212 u213 u214 u215 u216 u217 u218 u219 u220 u221 u222 u223 u224 u225 u226 u227 u228 u229 u230 u231 u232 u233 u234 u235 u236 u237 u238 u239 u240 u241 u242 u243 u244 u245 u246 u247 u248 u249 u250 u251 u252 u253 u254 u255 u256 u257 kq D1 HR0 HC0 HR1 HC1 HT_l A3 A5 A6 A7 A8 A9 A10 A11 A12 A13 A14 A15 g55 g56 g57 g58 d5 d6 g61 g62 d8 d9 uz3 uz4 g67 g68 e0 e1 uz5 uz6 K0 K1 HA HJ15 a9 a3 a5 a6 a7 HB K1_ aK1_
 conv at aK1_ => enter [a_, w_, 1, 2]; whnf
 conv => enter [2]; whnf
 have gf8 := Try.underlying28
 have gf9 := Try.underlying30
 (try clear ck7); (try clear ck8); (try clear ck9); (try clear cl0); (try clear cl1); (try clear cl2); (try clear cl3); (try clear cl4); (try clear cl5); (try clear cl6); (try clear cl7); (try clear cl8); (try clear cl9); (try clear cm0); (try clear cm1); (try clear cm2); (try clear cm3); (try clear cm4); (try clear cm5); (try clear cm6); (try clear cm7); (try clear cm8); (try clear cm9); (try clear cn0); (try clear cn1); (try clear cn2); (try clear cn3); (try clear cn4); (try clear cn5); (try clear cn6); (try clear cn7); (try clear cn8); (try clear cn9); (try clear co0); (try clear co1); (try clear co2); (try clear co3); (try clear co4); (try clear co5); (try clear co6); (try clear co7); (try clear co8); (try clear co9); (try clear cp0); (try clear cp1); (try clear cp2); (try clear cp3); (try clear cp4); (try clear cp5); (try clear cp6); (try clear cp7); (try clear cp8); (try clear cp9); (try clear cq0); (try clear cq1); (try clear cq2); (try clear cq3); (try clear cq4); (try clear cq5); (try clear cq6); (try clear cq7); (try clear cq8); (try clear cq9); (try clear cr0); (try clear cr1); (try clear cr2); (try clear cr3); (try clear cr4); (try clear cr5); (try clear cr6); (try clear cr7); (try clear cr8); (try clear cr9); (try clear cs0); (try clear cs1); (try clear cs2); (try clear cs3); (try clear cs4); (try clear cs5); (try clear cs6); (try clear cs7); (try clear cs8); (try clear cs9); (try clear ct0); (try clear ct1); (try clear ct2); (try clear ct3); (try clear ct4); (try clear ct5); (try clear ct6); (try clear ct7); (try clear ct8); (try clear ct9); (try clear cu0); (try clear cu1); (try clear cu2); (try clear cu3); (try clear cu4); (try clear cu5); (try clear cu6); (try clear cu7); (try clear cu8); (try clear cu9); (try clear cv0); (try clear cv1); (try clear cv2); (try clear cv3); (try clear cv4); (try clear cv5); (try clear cv6); (try clear cv7); (try clear cv8); (try clear cv9); (try clear cw0); (try clear cw1); (try clear cw2); (try clear cw3); (try clear cw4); (try clear cw5); (try clear cw6); (try clear cw7); (try clear cw8); (try clear cw9); (try clear cx0); (try clear cx1); (try clear cx2); (try clear cx3); (try clear cx4); (try clear cx5); (try clear cx6); (try clear cx7); (try clear cx8); (try clear cx9); (try clear cy0); (try clear cy1); (try clear cy2); (try clear g59); (try clear g60); (try clear g63); (try clear g64); (try clear g65); (try clear g66); (try clear g69); (try clear g70); (try clear g71); (try clear g72); (try clear g73); (try clear g74)
 cases kq with
 | zero => exact absurd HA.out (by simp [laws_FnBeamsGo.j0])
 | succ b92 => (
 as_aux_lemma => (
 have H := HA.out
 clear HA
 simp only [laws_FnBeamsGo.j0] at H
 by_cases U2 : D1 = true
 ·(
 subst U2
 rw [if_pos rfl] at H
 exact fy HT_l H
 )
 replace U2 := Bool.eq_false_iff.mpr U2
 subst U2
 rw [if_neg nft] at H
 have U3 := Aside0.mk H
 clear H
 repeat (go_not_at_if 259; first | go_skip | go_guarded | go_step | go_upon)
 go_cut [259] from 259 to 259 (fun gg0 wc => ∃ (kq : Nat), Aside0 (laws_FnBeamsGo.j10 kq l1 k9 n1 l2 m3 b9 b6 c7 c8 c9 d0 g6 g7 g8 g9 = some r) ∧ Aside0 (kq ≤ b92) ∧ Aside0 (wc.heap[e8]? = some (.cells #[.int .i64 b9, .int .i64 b6] 28 (0, 0))) ∧ Aside0 (wc.heap[h4]? = some (.cells #[.int .i64 c7, .int .i64 c8, .bool c9, .bool d0] 30 (0, 0))) ∧ Aside0 (wc.heap[h0]? = some (.cells #[.int .i64 g6, .int .i64 g7, .bool g8, .bool g9] 30 (0, 0))) ∧ Aside0 (wc.heap[e2]? = some (.cells #[.int .i64 h7, .int .i64 h8, .bool h9, .bool i0] 30 (0, 0))) ∧ Aside0 (Below w.heap.size w wc))
 case first => (
 as_aux_lemma => (
 have H := U3.out
 clear U3
 by_cases N5 : E8 = true
 ·(
 subst N5
 rw [if_pos rfl] at H
 have U4 := Aside0.mk H
 clear H
 repeat (go_not_at_region 18; first | go_skip | go_guarded | go_step | go_upon)
 go_cut [266] from 266 to 266 (fun b93 wc => ∃ (kq : Nat) (y4 : Bool), b93 = .bool y4 ∧ Aside0 (laws_FnBeamsGo.j1 kq l1 q4 a2 o8 o9 k9 n1 l2 m3 q4 y4 b9 b6 c7 c8 c9 d0 g6 g7 g8 g9 = some r) ∧ Aside0 (kq ≤ b92) ∧ Aside0 (Kd.S (Kd.slice 3 (Kd.int .i64)) 40 wc w.heap.size (fun _ => True) E9 a2) ∧ Aside0 (wc.heap[e8]? = some (.cells #[.int .i64 b9, .int .i64 b6] 28 (0, 0))) ∧ Aside0 (wc.heap[h4]? = some (.cells #[.int .i64 c7, .int .i64 c8, .bool c9, .bool d0] 30 (0, 0))) ∧ Aside0 (wc.heap[h0]? = some (.cells #[.int .i64 g6, .int .i64 g7, .bool g8, .bool g9] 30 (0, 0))) ∧ Aside0 (wc.heap[e2]? = some (.cells #[.int .i64 h7, .int .i64 h8, .bool h9, .bool i0] 30 (0, 0))) ∧ Aside0 (Below w.heap.size w wc))
 case first => (
 as_aux_lemma => (
 have H := U4.out
 clear U4
 by_cases U5 : o9 = true
 ·(
 subst U5
 rw [if_pos rfl] at H
 have H' := Aside0.mk H
 clear H
 repeat (go_not_at_region 14; go_not_at_region 20; go_not_at_region 29; go_not_at_region 30; go_not_at_region 45; go_not_at_region 83; go_not_at_region 86; first | go_skip | go_guarded | go_step | go_upon)
 go_meet
 case rel => exact ⟨_, (decide (o8 < q4)), sR, H', ⟨laws_FnBeamsGo.jx⟩, ⟨oS a9⟩, (bA a3), (bA a5), (bA a6), (bA a7), ⟨bB⟩⟩
 )
 replace U5 := Bool.eq_false_iff.mpr U5
 subst U5
 rw [if_neg nft] at H
 have H' := Aside0.mk H
 clear H
 repeat (go_not_at_region 14; go_not_at_region 20; go_not_at_region 29; go_not_at_region 30; go_not_at_region 45; go_not_at_region 83; go_not_at_region 86; first | go_skip | go_guarded | go_step | go_upon)
 go_meet
 case rel => exact ⟨_, (false), sR, H', ⟨laws_FnBeamsGo.jx⟩, ⟨oS a9⟩, (bA a3), (bA a5), (bA a6), (bA a7), ⟨bB⟩⟩
 )
 )
 clear U4
 try clear N5
 obtain ⟨kq, y4, rfl, HA, HJ130, a9, a3, a5, a6, a7, HB⟩ := hcut
 cases kq with
 | zero => exact absurd HA.out (by simp [laws_FnBeamsGo.j1])
 | succ bi4 => (
 as_aux_lemma => (
 have H := HA.out
 clear HA
 simp only [laws_FnBeamsGo.j1] at H
 have U6 := Aside0.mk H
 clear H
 repeat (go_not_at_if 266; first | go_skip | go_guarded | go_step | go_upon)
 go_cut [28, 266] from 28 to 28 (fun v28 b93 wc => ∃ (kq : Nat) (D2 : Int), v28 = .int .i64 D2 ∧ Aside0 (laws_FnBeamsGo.j2 kq l1 q4 a2 o8 o9 k9 n1 l2 m3 D2 b9 b6 c7 c8 c9 d0 g6 g7 g8 g9 = some r) ∧ Aside0 (kq ≤ bi4) ∧ Aside0 (Kd.S (Kd.slice 3 (Kd.int .i64)) 40 wc w.heap.size (fun _ => True) E9 a2) ∧ Aside0 (wc.heap[e8]? = some (.cells #[.int .i64 b9, .int .i64 b6] 28 (0, 0))) ∧ Aside0 (wc.heap[h4]? = some (.cells #[.int .i64 c7, .int .i64 c8, .bool c9, .bool d0] 30 (0, 0))) ∧ Aside0 (wc.heap[h0]? = some (.cells #[.int .i64 g6, .int .i64 g7, .bool g8, .bool g9] 30 (0, 0))) ∧ Aside0 (wc.heap[e2]? = some (.cells #[.int .i64 h7, .int .i64 h8, .bool h9, .bool i0] 30 (0, 0))) ∧ Aside0 (Below w.heap.size w wc))
 case first => (
 as_aux_lemma => (
 have H := U6.out
 clear U6
 by_cases U7 : y4 = true
 ·(
 subst U7
 rw [if_pos rfl] at H
 have H' := Aside0.mk H
 clear H
 repeat (go_not_at_region 14; go_not_at_region 20; go_not_at_region 29; go_not_at_region 30; go_not_at_region 45; go_not_at_region 83; go_not_at_region 86; first | go_skip | go_guarded | go_step | go_upon)
 go_meet
 case rel => exact ⟨_, (o8), sR, H', ⟨laws_FnBeamsGo.jx⟩, ⟨oS a9⟩, (bA a3), (bA a5), (bA a6), (bA a7), ⟨bB⟩⟩
 )
 replace U7 := Bool.eq_false_iff.mpr U7
 subst U7
 rw [if_neg nft] at H
 have H' := Aside0.mk H
 clear H
 repeat (go_not_at_region 14; go_not_at_region 20; go_not_at_region 29; go_not_at_region 30; go_not_at_region 45; go_not_at_region 83; go_not_at_region 86; first | go_skip | go_guarded | go_step | go_upon)
 go_meet
 case rel => exact ⟨_, (q4), sR, H', ⟨laws_FnBeamsGo.jx⟩, ⟨oS a9⟩, (bA a3), (bA a5), (bA a6), (bA a7), ⟨bB⟩⟩
 )
 )
 clear U6
 obtain ⟨kq, D2, rfl, HA, HJ132, a9, a3, a5, a6, a7, HB⟩ := hcut
 cases kq with
 | zero => exact absurd HA.out (by simp [laws_FnBeamsGo.j2])
 | succ U8 => (
 as_aux_lemma => (
 have H := HA.out
 clear HA
 simp only [laws_FnBeamsGo.j2] at H
 have U9 := Aside0.mk H
 clear H
 repeat (go_not_at_region 20; first | go_skip | go_guarded | go_step | go_upon)
 go_cut [292] from 292 to 292 (fun bm6 wc => ∃ (kq : Nat) (y5 : Bool), bm6 = .bool y5 ∧ Aside0 (laws_FnBeamsGo.j3 kq l1 q4 a2 o8 o9 k9 n1 l2 m3 y5 b9 b6 c7 c8 c9 d0 g6 g7 g8 g9 = some r) ∧ Aside0 (kq ≤ U8) ∧ Aside0 (Kd.S (Kd.slice 3 (Kd.int .i64)) 40 wc w.heap.size (fun _ => True) E9 a2) ∧ Aside0 (wc.heap[e8]? = some (.cells #[.int .i64 b9, .int .i64 b6] 28 (0, 0))) ∧ Aside0 (wc.heap[h4]? = some (.cells #[.int .i64 c7, .int .i64 c8, .bool c9, .bool d0] 30 (0, 0))) ∧ Aside0 (wc.heap[h0]? = some (.cells #[.int .i64 g6, .int .i64 g7, .bool g8, .bool g9] 30 (0, 0))) ∧ Aside0 (wc.heap[e2]? = some (.cells #[.int .i64 h7, .int .i64 h8, .bool h9, .bool i0] 30 (0, 0))) ∧ Aside0 (Below w.heap.size w wc))
 case first => (
 as_aux_lemma => (
 have H := U9.out
 clear U9
 by_cases V0 : (a2.length : Int) = (wrap64 (D2 + 1))
 ·(
 rw [if_pos V0] at H
 obtain ⟨a87, d05⟩ := yE V0
 clear V0
 (first | rw [a87] | (simp only [i64_w, i32_w]; rw [a87]) | skip)
 by_cases V1 : 0 < (a2.length : Int)
 ·(
 rw [if_pos V1] at H
 have d06 : decide (0 < (a2.length : Int)) = true := decide_eq_true V1
 have d07 : decide (0 < a2.length) = true := decide_eq_true (nl0 V1)
 clear V1
 by_cases V2 : 0 < ((rd_L4 a2 0).length : Int)
 ·(
 rw [if_pos V2] at H
 have d08 : decide (0 < ((rd_L4 a2 0).length : Int)) = true := decide_eq_true V2
 have d09 : decide (0 < (rd_L4 a2 0).length) = true := decide_eq_true (nl0 V2)
 clear V2
 by_cases V3 : (rd (rd_L4 a2 0) 0) = c7
 ·(
 rw [if_pos V3] at H
 obtain ⟨d10, d11⟩ := yE V3
 clear V3
 by_cases V4 : 1 < ((rd_L4 a2 0).length : Int)
 ·(
 rw [if_pos V4] at H
 have d12 : decide (1 < ((rd_L4 a2 0).length : Int)) = true := decide_eq_true V4
 have d13 : decide (1 < (rd_L4 a2 0).length) = true := decide_eq_true (nl1 V4)
 clear V4
 have H' := Aside0.mk H
 clear H
 repeat (go_not_at_region 14; go_not_at_region 20; go_not_at_region 29; go_not_at_region 30; go_not_at_region 45; go_not_at_region 83; go_not_at_region 86; first | go_skip | go_guarded | go_step | go_upon)
 replace a9 := Aside0.mk (Kd.S_drew a9.out)
 replace a3 := bD1 a3
 replace a5 := bD1 a5
 replace a6 := bD1 a6
 replace a7 := bD1 a7
 replace HB := Aside0.mk (below_drew1 HB.out)
 obtain ⟨ga5, ga6, b26⟩ := Kd.S_slice a9.out
 (first | subst b26 | (injection b26 with f1_ f2_ f3_; have f4_ := f1_.symm; have f5_ := f3_.symm; clear f1_ f2_ f3_; subst f4_; subst f5_))
 have V5 : 0 ≤ (0 : Int) := (by decide)
 have V6 : 0 < (a2.length : Int) := of_decide_eq_true (by first | exact d06 | exact asm)
 obtain ⟨V7, d14, a88, bm7, r6, S7, S8⟩ := at_L4 (Kd.S_reads' a9.out).2.2 0 V5 V6
 cases bm7
 obtain ⟨ga7, b94, b95, a89⟩ := Kd.S_get a9.out [] 0 V5 (by first | exact V6 | exact of_decide_eq_true asm | (have e_ := (Kd.S_reads' a9.out).1; omega))
 obtain ⟨cy3, rfl, I2⟩ := b95
 have x0 := a89 0 _ rfl
 rw [Nat.add_zero, show ((Kd.slice 3 (Kd.int .i64))).sz = 1 from rfl, Nat.mul_one] at x0
 replace x0 := Option.some.inj (x0.symm.trans r6)
 rw [x0] at I2
 have b63 := Aside0.mk (show Kd.R (Kd.int .i64) 3 _ _ _ _ (rd_L4 a2 0) from I2)
 clear x0 I2 a89 b94
 have ga8 : (0 < a2.length) = True := eq_true (nl0 V6)
 (try rw [show ((0 : Int)).toNat = 0 from rfl] at r6)
 (try rw [Addr.add_zero'] at r6)
 have S9 := Aside0.mk S8
 have cy4 := Aside0.mk S7
 clear S8 S7
 replace V5 := eq_true V5
 replace V6 := eq_true V6
 have ae9 : 0 ≤ (0 : Int) := (by decide)
 have af0 : 0 < ((rd_L4 a2 0).length : Int) := of_decide_eq_true (by first | exact d08 | exact asm)
 obtain ⟨b27, bm8, D3⟩ := Kd.at_int (cR S9) 0 ae9 af0
 cases bm8
 have ga9 : (0 < (rd_L4 a2 0).length) = True := eq_true (nl0 af0)
 (try rw [show ((0 : Int)).toNat = 0 from rfl] at D3)
 (try rw [Addr.add_zero'] at D3)
 replace ae9 := eq_true ae9
 replace af0 := eq_true af0
 have V8 : 0 ≤ (0 : Int) := (by decide)
 have V9 : 0 < (a2.length : Int) := of_decide_eq_true (by first | exact d06 | exact asm)
 obtain ⟨bi5, d15, d16, bm9, r7, T0, T1⟩ := at_L4 (Kd.S_reads' a9.out).2.2 0 V8 V9
 obtain rfl : V7 = bi5 := (by injection bm9)
 obtain ⟨gb0, b96, b97, a90⟩ := Kd.S_get a9.out [] 0 V8 (by first | exact V9 | exact of_decide_eq_true asm | (have e_ := (Kd.S_reads' a9.out).1; omega))
 obtain ⟨cy5, rfl, I3⟩ := b97
 have x2 := a90 0 _ rfl
 rw [Nat.add_zero, show ((Kd.slice 3 (Kd.int .i64))).sz = 1 from rfl, Nat.mul_one] at x2
 replace x2 := Option.some.inj (x2.symm.trans r7)
 rw [x2] at I3
 have b64 := Aside0.mk (show Kd.R (Kd.int .i64) 3 _ _ _ _ (rd_L4 a2 0) from I3)
 clear x2 I3 a90 b96
 have gb1 : (0 < a2.length) = True := eq_true (nl0 V9)
 (try rw [show ((0 : Int)).toNat = 0 from rfl] at r7)
 (try rw [Addr.add_zero'] at r7)
 have T2 := Aside0.mk T1
 have cy6 := Aside0.mk T0
 clear T1 T0
 replace V8 := eq_true V8
 replace V9 := eq_true V9
 have ea_ := Option.some.inj (r6.symm.trans r7)
 injection ea_ with ea_ en_ ec_
 subst ea_
 subst ec_
 clear en_
 have af1 : 0 ≤ (1 : Int) := (by decide)
 have af2 : 1 < ((rd_L4 a2 0).length : Int) := of_decide_eq_true (by first | exact d12 | exact asm)
 obtain ⟨X0, bn0, D4⟩ := Kd.at_int (cR T2) 1 af1 af2
 cases bn0
 (try simp only [show (1 : Int).toNat = 1 from rfl, Nat.reduceMul, Nat.reduceEqDiff, Go.Addr.add, ↓reduceIte] at D4)
 have gb2 : (1 < (rd_L4 a2 0).length) = True := eq_true (nl1 af2)
 (try rw [show ((1 : Int)).toNat = 1 from rfl] at D4)
 replace af1 := eq_true af1
 replace af2 := eq_true af2
 as_aux_lemma => (
 refine st_ 25 laws_FnBeamsGo.pl1 (S := fun w' => w'.cell? ⟨h4, 0, none⟩ = some (.int .i64 c7) ∧ w'.cell? ⟨h4, 1, none⟩ = some (.int .i64 c8) ∧ w'.cell? ⟨h4, 2, none⟩ = some (.bool c9) ∧ w'.cell? ⟨h4, 3, none⟩ = some (.bool d0) ∧ w'.cell? V7 = some (.slice (some b27) (rd_L4 a2 0).length a88) ∧ w'.cell? b27 = some (.int .i64 (rd (rd_L4 a2 0) 0)) ∧ w'.cell? V7 = some (.slice (some b27) (rd_L4 a2 0).length a88) ∧ w'.cell? ⟨b27.block, b27.off + 1, none⟩ = some (.int .i64 (rd (rd_L4 a2 0) 1))) (ds := []) laws_FnBeamsGo.tab20 laws_FnBeamsGo.bits20 ⟨cb a5 0, cb a5 1, cb a5 2, cb a5 3, r6, D3, r7, D4⟩ (fun hHeld HT_ HW_ => ?_)
 generalize wc.drew = gg1 at a9 a3 a5 a6 a7 HB b63 b64 S9 T2 r6 D3 r7 D4 hHeld ⊢
 iterate 25 (first | refine rA HT_ ?_ | refine rT HT_ HW_ hHeld ?_)
 refine pD HT_ ?_
 repeat (go_not_at_region 14; go_not_at_region 20; go_not_at_region 29; go_not_at_region 30; go_not_at_region 45; go_not_at_region 83; go_not_at_region 86; first | go_skip | go_guarded | go_step | go_upon)
 (try rw [dSet])
 go_meet
 case rel => exact ⟨_, (((rd (rd_L4 a2 0) 1) != c8)), sR, H', ⟨laws_FnBeamsGo.jx⟩, ⟨oS a9⟩, (bA a3), (bA a5), (bA a6), (bA a7), ⟨bB⟩⟩
 )
 )
 rw [if_neg V4] at H
 exact absurd H (by simp)
 )
 rw [if_neg V3] at H
 exact absurd H (by cases U8 <;> simp [laws_FnBeamsGo.j3, HT_l.out])
 )
 rw [if_neg V2] at H
 exact absurd H (by simp)
 )
 rw [if_neg V1] at H
 exact absurd H (by simp)
 )
 rw [if_neg V0] at H
 exact absurd H (by cases U8 <;> simp [laws_FnBeamsGo.j3, HT_l.out])
 )
 )
 clear U9
 obtain ⟨kq, y5, rfl, HA, HJ134, a9, a3, a5, a6, a7, HB⟩ := hcut
 cases kq with
 | zero => exact absurd HA.out (by simp [laws_FnBeamsGo.j3])
 | succ b28 => (
 as_aux_lemma => (
 have H := HA.out
 clear HA
 simp only [laws_FnBeamsGo.j3] at H
 by_cases X1 : y5 = true
 ·(
 subst X1
 rw [if_pos rfl] at H
 exact fy HT_l H
 )
 replace X1 := Bool.eq_false_iff.mpr X1
 subst X1
 rw [if_neg nft] at H
 replace H := Option.bind_eq_some_iff.mp H; obtain ⟨⟨d4, bn1⟩, b29, H⟩ := H; (try dsimp only at H); have bn2 := Aside0.mk b29; clear b29
 by_cases N6 : bn1 = true
 ·(
 subst N6
 rw [if_pos rfl] at H
 have H' := Aside0.mk H
 clear H
 have d17 := d5.out
 have d18 := d6.out
 have d19 := d8.out
 have d20 := d9.out
 have d21 := e0.out
 have d22 := e1.out
 obtain ⟨af3, af4, af5, af6⟩ := cf2 a3
 have d23 := uz3.out
 have d24 := uz4.out
 have d25 := uz5.out
 have d26 := uz6.out
 obtain ⟨af7, af8, af9, ag0, ag1, ag2, ag3, ag4⟩ := cf4 a5
 repeat (go_not_at_region 14; go_not_at_region 20; go_not_at_region 29; go_not_at_region 30; go_not_at_region 45; go_not_at_region 83; go_not_at_region 86; first | ((with_reducible refine gate_callee (f := 24) rfl ?_); refine goesL_ (some 297) rfl rfl Try.func24 kr rfl #[.agg #[.int .i64 b9, .int .i64 b6], .agg #[.int .i64 c7, .int .i64 c8, .bool c9, .bool d0], .int .i64 q4] rfl sM ?_; (with_reducible refine (impl_BouncesWithin.calls b9 b6 c7 c8 c9 d0 q4 d4 true _ bn2.out).mono ?_); rintro e gg2 ⟨rfl, hb⟩; refine ⟨_, rfl, ?_⟩; replace a9 := Aside0.mk (Kd.S_below (oS a9) hb); replace a3 := bQ a3 hb; replace a5 := bQ a5 hb; replace a6 := bQ a6 hb; replace a7 := bQ a7 hb; replace HB := Aside0.mk (below_step bB hb); (try clear hb)) | go_skip | go_guarded | go_step | go_upon)
 go_loopg [31, 32] b28 (fun kq v31 v32 w' => ∃ (b2 : Int) (a4 : Int), v31 = .int .i64 b2 ∧ v32 = .int .i64 a4 ∧ Aside0 (laws_FnBeamsGo.l0 kq l1 a2 o8 o9 k9 n1 l2 m3 d4 b2 a4 b9 b6 c7 c8 c9 d0 g6 g7 g8 g9 = some r) ∧ Aside0 (kq ≤ b28) ∧ Aside0 (Kd.S (Kd.slice 3 (Kd.int .i64)) 40 w' w.heap.size (fun _ => True) E9 a2) ∧ Aside0 (w'.heap[e8]? = some (.cells #[.int .i64 b9, .int .i64 b6] 28 (0, 0))) ∧ Aside0 (w'.heap[h4]? = some (.cells #[.int .i64 c7, .int .i64 c8, .bool c9, .bool d0] 30 (0, 0))) ∧ Aside0 (w'.heap[h0]? = some (.cells #[.int .i64 g6, .int .i64 g7, .bool g8, .bool g9] 30 (0, 0))) ∧ Aside0 (w'.heap[e2]? = some (.cells #[.int .i64 h7, .int .i64 h8, .bool h9, .bool i0] 30 (0, 0))) ∧ Aside0 (Below w.heap.size w w'))
 case atStart => exact ⟨(0), (1), sR, sR, H', ⟨Nat.le_refl _⟩, ⟨oS a9⟩, (bA a3), (bA a5), (bA a6), (bA a7), ⟨bB⟩⟩
 case round => (
 as_aux_lemma => (
 clear H'
 try clear N6
 try clear af3
 try clear af4
 try clear af7
 try clear af8
 try clear af9
 try clear ag0
 try clear af5
 try clear af6
 try clear ag1
 try clear ag2
 try clear ag3
 try clear ag4
 obtain ⟨b2, a4, rfl, rfl, HA, HK5, a9, a3, a5, a6, a7, HB⟩ := hrel
 cases gk with
 | zero => exact absurd HA.out (by simp [laws_FnBeamsGo.l0])
 | succ k5 => (
 have H := HA.out
 clear HA
 simp only [laws_FnBeamsGo.l0] at H
 by_cases I4 : a4 < (a2.length : Int)
 ·(
 rw [if_pos I4] at H
 have a91 : decide (a4 < (a2.length : Int)) = true := decide_eq_true I4
 clear I4
 obtain ⟨g2, N7⟩ : ∃ j_ : Int, (wrap64 (a4 - 1)) = j_ := ⟨_, rfl⟩
 (first | rw [N7] at H | simp only [N7] at H)
 have cy7 : (IntKind.i64.wrap (a4 - 1)) = g2 := (i64_w _).trans N7
 by_cases X2 : 0 ≤ (g2)
 ·(
 rw [if_pos X2] at H
 have b99 : decide (0 ≤ (g2)) = true := decide_eq_true X2
 clear X2
 by_cases X3 : (g2) < (a2.length : Int)
 ·(
 rw [if_pos X3] at H
 have ba0 : decide ((g2) < (a2.length : Int)) = true := decide_eq_true X3
 clear X3
 by_cases X4 : 0 ≤ a4
 ·(
 rw [if_pos X4] at H
 have ba1 : decide (0 ≤ a4) = true := decide_eq_true X4
 clear X4
 by_cases X5 : 0 < ((rd_L4 a2 a4).length : Int)
 ·(
 rw [if_pos X5] at H
 have ba2 : decide (0 < ((rd_L4 a2 a4).length : Int)) = true := decide_eq_true X5
 have ba3 : decide (0 < (rd_L4 a2 a4).length) = true := decide_eq_true (nl0 X5)
 clear X5
 by_cases X6 : 1 < ((rd_L4 a2 a4).length : Int)
 ·(
 rw [if_pos X6] at H
 have ba4 : decide (1 < ((rd_L4 a2 a4).length : Int)) = true := decide_eq_true X6
 have ba5 : decide (1 < (rd_L4 a2 a4).length) = true := decide_eq_true (nl1 X6)
 clear X6
 have X7 := Aside0.mk H
 clear H
 obtain ⟨gb3, G0, bi6⟩ := Kd.S_slice a9.out
 subst bi6
 repeat (go_not_at_region 14; go_not_at_region 20; go_not_at_region 29; go_not_at_region 30; go_not_at_region 45; go_not_at_region 83; go_not_at_region 86; first | go_skip | go_guarded | go_step | go_upon)
 replace a9 := Aside0.mk (Kd.S_drew a9.out)
 replace a3 := bD1 a3
 replace a5 := bD1 a5
 replace a6 := bD1 a6
 replace a7 := bD1 a7
 replace HB := Aside0.mk (below_drew1 HB.out)
 have N8 : 0 ≤ ((g2) : Int) := of_decide_eq_true asm
 have N9 : (g2) < (a2.length : Int) := of_decide_eq_true (by first | exact ba0 | exact asm)
 obtain ⟨j9, x3, ba6, bn3, D5, T3, T4⟩ := at_L4 (Kd.S_reads' a9.out).2.2 (g2) N8 N9
 cases bn3
 obtain ⟨gb4, ba7, ba8, a92⟩ := Kd.S_get a9.out [] (g2) N8 (by first | exact N9 | exact of_decide_eq_true asm | (have e_ := (Kd.S_reads' a9.out).1; omega))
 obtain ⟨cy8, rfl, I5⟩ := ba8
 have x4 := a92 0 _ rfl
 rw [Nat.add_zero, show ((Kd.slice 3 (Kd.int .i64))).sz = 1 from rfl, Nat.mul_one] at x4
 replace x4 := Option.some.inj (x4.symm.trans D5)
 rw [x4] at I5
 have D6 := Aside0.mk (show Kd.R (Kd.int .i64) 3 _ _ _ _ (rd_L4 a2 (g2)) from I5)
 clear x4 I5 a92 ba7
 have a8 := Aside0.mk T4
 have cy9 := Aside0.mk T3
 clear T4 T3
 replace N8 := eq_true N8
 replace N9 := eq_true N9
 have O0 : 0 ≤ (a4 : Int) := of_decide_eq_true asm
 have O1 : a4 < (a2.length : Int) := of_decide_eq_true (by first | exact a91 | exact asm)
 obtain ⟨bi7, ba9, bb0, bn4, D7, T5, T6⟩ := at_L4 (Kd.S_reads' a9.out).2.2 a4 O0 O1
 obtain rfl : j9 = bi7 := (by injection bn4)
 obtain ⟨gb5, bb1, bb2, a93⟩ := Kd.S_get a9.out [] a4 O0 (by first | exact O1 | exact of_decide_eq_true asm | (have e_ := (Kd.S_reads' a9.out).1; omega))
 obtain ⟨cz0, rfl, I6⟩ := bb2
 have x5 := a93 0 _ rfl
 rw [Nat.add_zero, show ((Kd.slice 3 (Kd.int .i64))).sz = 1 from rfl, Nat.mul_one] at x5
 replace x5 := Option.some.inj (x5.symm.trans D7)
 rw [x5] at I6
 have D8 := Aside0.mk (show Kd.R (Kd.int .i64) 3 _ _ _ _ (rd_L4 a2 a4) from I6)
 clear x5 I6 a93 bb1
 have b1 := Aside0.mk T6
 have cz1 := Aside0.mk T5
 clear T6 T5
 replace O0 := eq_true O0
 replace O1 := eq_true O1
 as_aux_lemma => (
 refine st_ 11 laws_FnBeamsGo.pl11 (S := fun w' => w'.cell? (j9.add ((g2)).toNat) = some (.slice x3 (rd_L4 a2 (g2)).length ba6) ∧ w'.cell? (j9.add (a4).toNat) = some (.slice ba9 (rd_L4 a2 a4).length bb0)) (ds := []) laws_FnBeamsGo.tab29 laws_FnBeamsGo.bits29 ⟨D5, D7⟩ (fun hHeld HT_ HW_ => ?_)
 generalize wr.drew = bn5 at a9 a3 a5 a6 a7 HB D6 D8 a8 b1 D5 D7 hHeld ⊢
 (try clear d17); (try clear d18); (try clear d19); (try clear d20); (try clear d21); (try clear d22); (try clear af3); (try clear af4); (try clear af5); (try clear af6); (try clear d23); (try clear d24); (try clear d25); (try clear d26); (try clear af7); (try clear af8); (try clear af9); (try clear ag0); (try clear ag1); (try clear ag2); (try clear ag3); (try clear ag4)
 iterate 11 (first | refine rA HT_ ?_ | refine rT HT_ HW_ hHeld ?_)
 refine pD HT_ ?_
 repeat (go_not_at_region 14; go_not_at_region 20; go_not_at_region 29; go_not_at_region 30; go_not_at_region 45; go_not_at_region 83; go_not_at_region 86; first | go_skip | go_guarded | go_step | go_upon)
 (try rw [dSet])
 replace a9 := Aside0.mk (Kd.S_drew a9.out)
 replace D6 := Aside0.mk (Kd.R_drew D6.out)
 replace D8 := Aside0.mk (Kd.R_drew D8.out)
 replace a3 := bD1 a3
 replace a5 := bD1 a5
 replace a6 := bD1 a6
 replace a7 := bD1 a7
 replace a8 := Aside0.mk (Kd.C_drew a8.out)
 replace b1 := Aside0.mk (Kd.C_drew b1.out)
 replace HB := Aside0.mk (below_drew1 HB.out)
 have X8 : 0 ≤ (0 : Int) := (by decide)
 have X9 : 0 < ((rd_L4 a2 a4).length : Int) := of_decide_eq_true (by first | exact ba2 | exact asm)
 obtain ⟨r5, bn6, x6⟩ := Kd.at_int (cR b1) 0 X8 X9
 cases bn6
 have gb6 : (0 < (rd_L4 a2 a4).length) = True := eq_true (nl0 X9)
 (try rw [show ((0 : Int)).toNat = 0 from rfl] at x6)
 (try rw [Addr.add_zero'] at x6)
 replace X8 := eq_true X8
 replace X9 := eq_true X9
 have Y0 : 0 ≤ (1 : Int) := (by decide)
 have Y1 : 1 < ((rd_L4 a2 a4).length : Int) := of_decide_eq_true (by first | exact ba4 | exact asm)
 obtain ⟨bi8, bn7, y2⟩ := Kd.at_int (cR b1) 1 Y0 Y1
 obtain rfl : r5 = bi8 := (by injection bn7)
 (try simp only [show (1 : Int).toNat = 1 from rfl, Nat.reduceMul, Nat.reduceEqDiff, Go.Addr.add, ↓reduceIte] at y2)
 have gb7 : (1 < (rd_L4 a2 a4).length) = True := eq_true (nl1 Y1)
 (try rw [show ((1 : Int)).toNat = 1 from rfl] at y2)
 replace Y0 := eq_true Y0
 replace Y1 := eq_true Y1
 as_aux_lemma => (
 refine st_ 8 laws_FnBeamsGo.pl12 (S := fun w' => w'.cell? r5 = some (.int .i64 (rd (rd_L4 a2 a4) 0)) ∧ w'.cell? ⟨r5.block, r5.off + 1, none⟩ = some (.int .i64 (rd (rd_L4 a2 a4) 1))) (ds := []) laws_FnBeamsGo.tab30 laws_FnBeamsGo.bits30 ⟨x6, y2⟩ (fun hHeld HT_ HW_ => ?_)
 generalize bn5.drew = gg3 at a9 D6 D8 a3 a5 a6 a7 a8 b1 HB x6 y2 hHeld ⊢
 iterate 8 (first | refine rA HT_ ?_ | refine rT HT_ HW_ hHeld ?_)
 refine pD HT_ ?_
 repeat (go_not_at_region 31; first | go_skip | go_guarded | go_step | go_upon)
 go_cut [358] from 358 to 358 (fun bn8 wc => ∃ (kq : Nat) (y6 : Bool), bn8 = .bool y6 ∧ Aside0 (laws_FnBeamsGo.j5 kq l1 a2 o8 o9 k9 n1 l2 m3 d4 b2 a4 (rd (rd_L4 a2 a4) 0) (rd (rd_L4 a2 a4) 1) y6 b9 b6 c7 c8 c9 d0 g6 g7 g8 g9 = some r) ∧ Aside0 (kq ≤ k5) ∧ Aside0 (Kd.S (Kd.slice 3 (Kd.int .i64)) 40 wc w.heap.size (fun _ => True) (.slice (some j9) a2.length G0) a2) ∧ Aside0 (wc.heap[e8]? = some (.cells #[.int .i64 b9, .int .i64 b6] 28 (0, 0))) ∧ Aside0 (wc.heap[h4]? = some (.cells #[.int .i64 c7, .int .i64 c8, .bool c9, .bool d0] 30 (0, 0))) ∧ Aside0 (wc.heap[h0]? = some (.cells #[.int .i64 g6, .int .i64 g7, .bool g8, .bool g9] 30 (0, 0))) ∧ Aside0 (wc.heap[e2]? = some (.cells #[.int .i64 h7, .int .i64 h8, .bool h9, .bool i0] 30 (0, 0))) ∧ Aside0 (Kd.C (Kd.int .i64) wc x3 (rd_L4 a2 (g2)).length (rd_L4 a2 (g2))) ∧ Aside0 (Kd.C (Kd.int .i64) wc (some r5) (rd_L4 a2 a4).length (rd_L4 a2 a4)) ∧ Aside0 (Below w.heap.size w wc))
 case first => (
 as_aux_lemma => (
 have H := X7.out
 clear X7
 by_cases Y2 : (rd (rd_L4 a2 a4) 0) < 0
 ·(
 rw [if_pos Y2] at H
 exact absurd H (by cases k5 <;> simp [laws_FnBeamsGo.j5, HT_l.out])
 )
 rw [if_neg Y2] at H
 have a94 : decide ((rd (rd_L4 a2 a4) 0) < 0) = false := decide_eq_false Y2
 clear Y2
 (first | rw [a94] | (simp only [i64_w, i32_w]; rw [a94]) | skip)
 by_cases Y3 : (rd (rd_L4 a2 a4) 0) > b9
 ·(
 rw [if_pos Y3] at H
 exact absurd H (by cases k5 <;> simp [laws_FnBeamsGo.j5, HT_l.out])
 )
 rw [if_neg Y3] at H
 have d28 : decide (b9 < (rd (rd_L4 a2 a4) 0)) = false := decide_eq_false Y3
 clear Y3
 by_cases Y4 : (rd (rd_L4 a2 a4) 1) < 0
 ·(
 rw [if_pos Y4] at H
 exact absurd H (by cases k5 <;> simp [laws_FnBeamsGo.j5, HT_l.out])
 )
 rw [if_neg Y4] at H
 have d29 : decide ((rd (rd_L4 a2 a4) 1) < 0) = false := decide_eq_false Y4
 clear Y4
 by_cases Y5 : (rd (rd_L4 a2 a4) 1) > b6
 ·(
 rw [if_pos Y5] at H
 exact absurd H (by cases k5 <;> simp [laws_FnBeamsGo.j5, HT_l.out])
 )
 rw [if_neg Y5] at H
 have d30 : decide (b6 < (rd (rd_L4 a2 a4) 1)) = false := decide_eq_false Y5
 clear Y5
 by_cases Y6 : 0 < ((rd_L4 a2 (g2)).length : Int)
 ·(
 rw [if_pos Y6] at H
 have d31 : decide (0 < ((rd_L4 a2 (g2)).length : Int)) = true := decide_eq_true Y6
 have d32 : decide (0 < (rd_L4 a2 (g2)).length) = true := decide_eq_true (nl0 Y6)
 clear Y6
 replace H := Option.bind_eq_some_iff.mp H; obtain ⟨bb3, b30, H⟩ := H; (try dsimp only at H); have bn9 := Aside0.mk b30; clear b30
 by_cases Y7 : bb3 = 1
 ·(
 rw [if_pos Y7] at H
 obtain ⟨d33, d34⟩ := yE Y7
 clear Y7
 by_cases Y8 : 1 < ((rd_L4 a2 (g2)).length : Int)
 ·(
 rw [if_pos Y8] at H
 have d35 : decide (1 < ((rd_L4 a2 (g2)).length : Int)) = true := decide_eq_true Y8
 have d36 : decide (1 < (rd_L4 a2 (g2)).length) = true := decide_eq_true (nl1 Y8)
 clear Y8
 replace H := Option.bind_eq_some_iff.mp H; obtain ⟨bb4, b31, H⟩ := H; (try dsimp only at H); have bo0 := Aside0.mk b31; clear b31
 have H' := Aside0.mk H
 clear H
 have d37 := d5.out
 have d38 := d6.out
 have d39 := d8.out
 have d40 := d9.out
 have d41 := e0.out
 have d42 := e1.out
 obtain ⟨bo1, bo2, bo3, bo4⟩ := cf2 a3
 have ag5 : 0 ≤ (0 : Int) := (by decide)
 have ag6 : 0 < ((rd_L4 a2 (g2)).length : Int) := of_decide_eq_true (by first | exact d31 | exact asm)
 obtain ⟨bi9, bo5, T7⟩ := Kd.at_int (cR a8) 0 ag5 ag6
 cases bo5
 have gb8 : (0 < (rd_L4 a2 (g2)).length) = True := eq_true (nl0 ag6)
 (try rw [show ((0 : Int)).toNat = 0 from rfl] at T7)
 (try rw [Addr.add_zero'] at T7)
 replace ag5 := eq_true ag5
 replace ag6 := eq_true ag6
 repeat (go_not_at_region 14; go_not_at_region 20; go_not_at_region 29; go_not_at_region 30; go_not_at_region 45; go_not_at_region 83; go_not_at_region 86; first | (go_at_call 25; (with_reducible refine (laws_jSize.calls (wrap64 ((rd (rd_L4 a2 a4) 0) - (rd (rd_L4 a2 (g2)) 0))) bb3 _ bn9.out).mono ?_); rintro e w' ⟨rfl, ⟨nd, rfl⟩⟩; dsimp only; have ag7 : 0 ≤ (1 : Int) := (by decide); have ag8 : 1 < ((rd_L4 a2 (g2)).length : Int) := of_decide_eq_true (by first | exact d35 | exact asm); obtain ⟨bj0, bo6, T8⟩ := Kd.at_int (cR a8) 1 ag7 ag8; obtain rfl : bi9 = bj0 := (by injection bo6); (try simp only [show (1 : Int).toNat = 1 from rfl, Nat.reduceMul, Nat.reduceEqDiff, Go.Addr.add, ↓reduceIte] at T8); have gb9 : (1 < (rd_L4 a2 (g2)).length) = True := eq_true (nl1 ag8); (try rw [show ((1 : Int)).toNat = 1 from rfl] at T8); replace ag7 := eq_true ag7; replace ag8 := eq_true ag8) | (go_at_call 25; (with_reducible refine (laws_jSize.calls (wrap64 ((rd (rd_L4 a2 a4) 1) - (rd (rd_L4 a2 (g2)) 1))) bb4 _ bo0.out).mono ?_); rintro e w' ⟨rfl, ⟨nd, rfl⟩⟩; dsimp only) | go_skip | go_guarded | go_step | go_upon)
 go_meet
 case rel => exact ⟨_, ((bb4 != 1)), sR, H', ⟨laws_FnBeamsGo.jx⟩, ⟨oS a9⟩, (bA a3), (bA a5), (bA a6), (bA a7), ⟨cR a8⟩, ⟨cR b1⟩, ⟨bB⟩⟩
 )
 rw [if_neg Y8] at H
 exact absurd H (by simp)
 )
 rw [if_neg Y7] at H
 exact absurd H (by cases k5 <;> simp [laws_FnBeamsGo.j5, HT_l.out])
 )
 rw [if_neg Y6] at H
 exact absurd H (by simp)
 )
 )
 clear X7
 try clear a91
 try clear b99
 try clear ba0
 try clear ba1
 try clear ba2
 try clear ba3
 try clear ba4
 try clear ba5
 try clear D5
 try clear D7
 try clear x6
 try clear y2
 try clear N8
 try clear O0
 try clear X8
 try clear Y0
 try clear N9
 try clear O1
 try clear X9
 try clear Y1
 obtain ⟨kq, y6, rfl, HA, HJ160, a9, a3, a5, a6, a7, a8, b1, HB⟩ := hcut
 cases kq with
 | zero => exact absurd HA.out (by simp [laws_FnBeamsGo.j5])
 | succ bj1 => (
 as_aux_lemma => (
 have H := HA.out
 clear HA
 simp only [laws_FnBeamsGo.j5] at H; (try simp only [N7] at H)
 by_cases Y9 : y6 = true
 ·(
 subst Y9
 rw [if_pos rfl] at H
 exact fy HT_l H
 )
 replace Y9 := Bool.eq_false_iff.mpr Y9
 subst Y9
 rw [if_neg nft] at H
 have Z0 := Aside0.mk H
 clear H
 repeat (go_not_at_region 33; first | go_skip | go_guarded | go_step | go_upon)
 go_cut [37] from 37 to 37 (fun v37 wc => ∃ (kq : Nat) (q7 : Bool), v37 = .bool q7 ∧ Aside0 (laws_FnBeamsGo.j6 kq l1 a2 o8 o9 k9 n1 l2 m3 d4 b2 a4 (rd (rd_L4 a2 a4) 0) (rd (rd_L4 a2 a4) 1) q7 b9 b6 c7 c8 c9 d0 g6 g7 g8 g9 = some r) ∧ Aside0 (kq ≤ bj1) ∧ Aside0 (Kd.S (Kd.slice 3 (Kd.int .i64)) 40 wc w.heap.size (fun _ => True) (.slice (some j9) a2.length G0) a2) ∧ Aside0 (wc.heap[e8]? = some (.cells #[.int .i64 b9, .int .i64 b6] 28 (0, 0))) ∧ Aside0 (wc.heap[h4]? = some (.cells #[.int .i64 c7, .int .i64 c8, .bool c9, .bool d0] 30 (0, 0))) ∧ Aside0 (wc.heap[h0]? = some (.cells #[.int .i64 g6, .int .i64 g7, .bool g8, .bool g9] 30 (0, 0))) ∧ Aside0 (wc.heap[e2]? = some (.cells #[.int .i64 h7, .int .i64 h8, .bool h9, .bool i0] 30 (0, 0))) ∧ Aside0 (Kd.C (Kd.int .i64) wc x3 (rd_L4 a2 (g2)).length (rd_L4 a2 (g2))) ∧ Aside0 (Kd.C (Kd.int .i64) wc (some r5) (rd_L4 a2 a4).length (rd_L4 a2 a4)) ∧ Aside0 (Below w.heap.size w wc))
 case first => (
 as_aux_lemma => (
 have H := Z0.out
 clear Z0
 by_cases O2 : (rd (rd_L4 a2 a4) 0) = 0
 ·(
 rw [if_pos O2] at H
 obtain ⟨z8, bb5⟩ := yE O2
 clear O2
 (first | rw [z8] | (simp only [i64_w, i32_w]; rw [z8]) | skip)
 by_cases O3 : (rd (rd_L4 a2 a4) 1) = 0
 ·(
 rw [if_pos O3] at H
 obtain ⟨bb6, bb7⟩ := yE O3
 clear O3
 have H' := Aside0.mk H
 clear H
 repeat (go_not_at_region 14; go_not_at_region 20; go_not_at_region 29; go_not_at_region 30; go_not_at_region 45; go_not_at_region 83; go_not_at_region 86; first | go_skip | go_guarded | go_step | go_upon)
 go_meet
 case rel => exact ⟨_, (true), sR, H', ⟨laws_FnBeamsGo.jx⟩, ⟨oS a9⟩, (bA a3), (bA a5), (bA a6), (bA a7), ⟨cR a8⟩, ⟨cR b1⟩, ⟨bB⟩⟩
 )
 rw [if_neg O3] at H
 obtain ⟨bb6, bb7⟩ := nE O3
 have H' := Aside0.mk H
 clear H
 have d44 := d5.out
 have d45 := d6.out
 have d46 := d8.out
 have d47 := d9.out
 have d48 := e0.out
 have d49 := e1.out
 obtain ⟨bo7, bo8, bo9, bp0⟩ := cf2 a3
 repeat (go_not_at_region 14; go_not_at_region 20; go_not_at_region 29; go_not_at_region 30; go_not_at_region 45; go_not_at_region 83; go_not_at_region 86; first | go_skip | go_guarded | go_step | go_upon)
 go_meet
 case rel => exact ⟨_, (((rd (rd_L4 a2 a4) 1) == b6)), sR, H', ⟨laws_FnBeamsGo.jx⟩, ⟨oS a9⟩, (bA a3), (bA a5), (bA a6), (bA a7), ⟨cR a8⟩, ⟨cR b1⟩, ⟨bB⟩⟩
 )
 rw [if_neg O2] at H
 obtain ⟨z8, bb5⟩ := nE O2
 (first | rw [z8] | (simp only [i64_w, i32_w]; rw [z8]) | skip)
 by_cases O4 : (rd (rd_L4 a2 a4) 0) = b9
 ·(
 rw [if_pos O4] at H
 obtain ⟨bb8, bb9⟩ := yE O4
 clear O4
 by_cases O5 : (rd (rd_L4 a2 a4) 1) = 0
 ·(
 rw [if_pos O5] at H
 obtain ⟨bc0, bc1⟩ := yE O5
 clear O5
 have H' := Aside0.mk H
 clear H
 have d50 := d5.out
 have d51 := d6.out
 have d52 := d8.out
 have d53 := d9.out
 have d54 := e0.out
 have d55 := e1.out
 obtain ⟨bp1, bp2, bp3, bp4⟩ := cf2 a3
 repeat (go_not_at_region 14; go_not_at_region 20; go_not_at_region 29; go_not_at_region 30; go_not_at_region 45; go_not_at_region 83; go_not_at_region 86; first | go_skip | go_guarded | go_step | go_upon)
 go_meet
 case rel => exact ⟨_, (true), sR, H', ⟨laws_FnBeamsGo.jx⟩, ⟨oS a9⟩, (bA a3), (bA a5), (bA a6), (bA a7), ⟨cR a8⟩, ⟨cR b1⟩, ⟨bB⟩⟩
 )
 rw [if_neg O5] at H
 obtain ⟨bc0, bc1⟩ := nE O5
 have H' := Aside0.mk H
 clear H
 have d56 := d5.out
 have d57 := d6.out
 have d58 := d8.out
 have d59 := d9.out
 have d60 := e0.out
 have d61 := e1.out
 obtain ⟨bp5, bp6, bp7, bp8⟩ := cf2 a3
 repeat (go_not_at_region 14; go_not_at_region 20; go_not_at_region 29; go_not_at_region 30; go_not_at_region 45; go_not_at_region 83; go_not_at_region 86; first | go_skip | go_guarded | go_step | go_upon)
 go_meet
 case rel => exact ⟨_, (((rd (rd_L4 a2 a4) 1) == b6)), sR, H', ⟨laws_FnBeamsGo.jx⟩, ⟨oS a9⟩, (bA a3), (bA a5), (bA a6), (bA a7), ⟨cR a8⟩, ⟨cR b1⟩, ⟨bB⟩⟩
 )
 rw [if_neg O4] at H
 obtain ⟨bb8, bb9⟩ := nE O4
 have H' := Aside0.mk H
 clear H
 have d62 := d5.out
 have d63 := d6.out
 have d64 := d8.out
 have d65 := d9.out
 have d66 := e0.out
 have d67 := e1.out
 obtain ⟨bp9, bq0, bq1, bq2⟩ := cf2 a3
 repeat (go_not_at_region 14; go_not_at_region 20; go_not_at_region 29; go_not_at_region 30; go_not_at_region 45; go_not_at_region 83; go_not_at_region 86; first | go_skip | go_guarded | go_step | go_upon)
 go_meet
 case rel => exact ⟨_, (false), sR, H', ⟨laws_FnBeamsGo.jx⟩, ⟨oS a9⟩, (bA a3), (bA a5), (bA a6), (bA a7), ⟨cR a8⟩, ⟨cR b1⟩, ⟨bB⟩⟩
 )
 )
 clear Z0
 obtain ⟨kq, q7, rfl, HA, HJ178, a9, a3, a5, a6, a7, a8, b1, HB⟩ := hcut
 cases kq with
 | zero => exact absurd HA.out (by simp [laws_FnBeamsGo.j6])
 | succ bj2 => (
 as_aux_lemma => (
 have H := HA.out
 clear HA
 simp only [laws_FnBeamsGo.j6] at H; (try simp only [N7] at H)
 have Z1 := Aside0.mk H
 clear H
 repeat (go_not_at_region 34; first | go_skip | go_guarded | go_step | go_upon)
 go_cut [384] from 384 to 384 (fun bq3 wc => ∃ (kq : Nat) (y7 : Bool), bq3 = .bool y7 ∧ Aside0 (laws_FnBeamsGo.j7 kq l1 a2 o8 o9 k9 n1 l2 m3 d4 b2 a4 (rd (rd_L4 a2 a4) 0) (rd (rd_L4 a2 a4) 1) q7 y7 b9 b6 c7 c8 c9 d0 g6 g7 g8 g9 = some r) ∧ Aside0 (kq ≤ bj2) ∧ Aside0 (Kd.S (Kd.slice 3 (Kd.int .i64)) 40 wc w.heap.size (fun _ => True) (.slice (some j9) a2.length G0) a2) ∧ Aside0 (wc.heap[e8]? = some (.cells #[.int .i64 b9, .int .i64 b6] 28 (0, 0))) ∧ Aside0 (wc.heap[h4]? = some (.cells #[.int .i64 c7, .int .i64 c8, .bool c9, .bool d0] 30 (0, 0))) ∧ Aside0 (wc.heap[h0]? = some (.cells #[.int .i64 g6, .int .i64 g7, .bool g8, .bool g9] 30 (0, 0))) ∧ Aside0 (wc.heap[e2]? = some (.cells #[.int .i64 h7, .int .i64 h8, .bool h9, .bool i0] 30 (0, 0))) ∧ Aside0 (Kd.C (Kd.int .i64) wc x3 (rd_L4 a2 (g2)).length (rd_L4 a2 (g2))) ∧ Aside0 (Kd.C (Kd.int .i64) wc (some r5) (rd_L4 a2 a4).length (rd_L4 a2 a4)) ∧ Aside0 (Below w.heap.size w wc))
 case first => (
 as_aux_lemma => (
 have H := Z1.out
 clear Z1
 by_cases Z2 : o9 = true
 ·(
 subst Z2
 rw [if_pos rfl] at H
 have H' := Aside0.mk H
 clear H
 repeat (go_not_at_region 14; go_not_at_region 20; go_not_at_region 29; go_not_at_region 30; go_not_at_region 45; go_not_at_region 83; go_not_at_region 86; first | go_skip | go_guarded | go_step | go_upon)
 go_meet
 case rel => exact ⟨_, ((q7 != (a4 == o8))), sR, H', ⟨laws_FnBeamsGo.jx⟩, ⟨oS a9⟩, (bA a3), (bA a5), (bA a6), (bA a7), ⟨cR a8⟩, ⟨cR b1⟩, ⟨bB⟩⟩
 )
 replace Z2 := Bool.eq_false_iff.mpr Z2
 subst Z2
 rw [if_neg nft] at H
 have H' := Aside0.mk H
 clear H
 repeat (go_not_at_region 14; go_not_at_region 20; go_not_at_region 29; go_not_at_region 30; go_not_at_region 45; go_not_at_region 83; go_not_at_region 86; first | go_skip | go_guarded | go_step | go_upon)
 go_meet
 case rel => exact ⟨_, ((q7 != false)), sR, H', ⟨laws_FnBeamsGo.jx⟩, ⟨oS a9⟩, (bA a3), (bA a5), (bA a6), (bA a7), ⟨cR a8⟩, ⟨cR b1⟩, ⟨bB⟩⟩
 )
 )
 clear Z1
 obtain ⟨kq, y7, rfl, HA, HJ199, a9, a3, a5, a6, a7, a8, b1, HB⟩ := hcut
 cases kq with
 | zero => exact absurd HA.out (by simp [laws_FnBeamsGo.j7])
 | succ bj3 => (
 as_aux_lemma => (
 have H := HA.out
 clear HA
 simp only [laws_FnBeamsGo.j7] at H; (try simp only [N7] at H)
 by_cases Z3 : y7 = true
 ·(
 subst Z3
 rw [if_pos rfl] at H
 exact fy HT_l H
 )
 replace Z3 := Bool.eq_false_iff.mpr Z3
 subst Z3
 rw [if_neg nft] at H
 have Z4 := Aside0.mk H
 clear H
 repeat (go_not_at_region 36; first | go_skip | go_guarded | go_step | go_upon)
 go_cut [406] from 406 to 406 (fun bc2 wc => ∃ (kq : Nat) (y8 : Bool), bc2 = .bool y8 ∧ Aside0 (laws_FnBeamsGo.j8 kq l1 a2 o8 o9 k9 n1 l2 m3 d4 b2 a4 (rd (rd_L4 a2 a4) 0) (rd (rd_L4 a2 a4) 1) y8 b9 b6 c7 c8 c9 d0 g6 g7 g8 g9 = some r) ∧ Aside0 (kq ≤ bj3) ∧ Aside0 (Kd.S (Kd.slice 3 (Kd.int .i64)) 40 wc w.heap.size (fun _ => True) (.slice (some j9) a2.length G0) a2) ∧ Aside0 (wc.heap[e8]? = some (.cells #[.int .i64 b9, .int .i64 b6] 28 (0, 0))) ∧ Aside0 (wc.heap[h4]? = some (.cells #[.int .i64 c7, .int .i64 c8, .bool c9, .bool d0] 30 (0, 0))) ∧ Aside0 (wc.heap[h0]? = some (.cells #[.int .i64 g6, .int .i64 g7, .bool g8, .bool g9] 30 (0, 0))) ∧ Aside0 (wc.heap[e2]? = some (.cells #[.int .i64 h7, .int .i64 h8, .bool h9, .bool i0] 30 (0, 0))) ∧ Aside0 (Kd.C (Kd.int .i64) wc x3 (rd_L4 a2 (g2)).length (rd_L4 a2 (g2))) ∧ Aside0 (Kd.C (Kd.int .i64) wc (some r5) (rd_L4 a2 a4).length (rd_L4 a2 a4)) ∧ Aside0 (Below w.heap.size w wc))
 case first => (
 as_aux_lemma => (
 have H := Z4.out
 clear Z4
 by_cases Z5 : q7 = true
 ·(
 subst Z5
 rw [if_pos rfl] at H
 have H' := Aside0.mk H
 clear H
 repeat (go_not_at_region 14; go_not_at_region 20; go_not_at_region 29; go_not_at_region 30; go_not_at_region 45; go_not_at_region 83; go_not_at_region 86; first | go_skip | go_guarded | go_step | go_upon)
 go_meet
 case rel => exact ⟨_, (false), sR, H', ⟨laws_FnBeamsGo.jx⟩, ⟨oS a9⟩, (bA a3), (bA a5), (bA a6), (bA a7), ⟨cR a8⟩, ⟨cR b1⟩, ⟨bB⟩⟩
 )
 replace Z5 := Bool.eq_false_iff.mpr Z5
 subst Z5
 rw [if_neg nft] at H
 by_cases O6 : (rd (rd_L4 a2 a4) 0) = 0
 ·(
 rw [if_pos O6] at H
 obtain ⟨z9, bc3⟩ := yE O6
 clear O6
 (first | rw [z9] | (simp only [i64_w, i32_w]; rw [z9]) | skip)
 have H' := Aside0.mk H
 clear H
 repeat (go_not_at_region 14; go_not_at_region 20; go_not_at_region 29; go_not_at_region 30; go_not_at_region 45; go_not_at_region 83; go_not_at_region 86; first | go_skip | go_guarded | go_step | go_upon)
 go_meet
 case rel => exact ⟨_, (true), sR, H', ⟨laws_FnBeamsGo.jx⟩, ⟨oS a9⟩, (bA a3), (bA a5), (bA a6), (bA a7), ⟨cR a8⟩, ⟨cR b1⟩, ⟨bB⟩⟩
 )
 rw [if_neg O6] at H
 obtain ⟨z9, bc3⟩ := nE O6
 (first | rw [z9] | (simp only [i64_w, i32_w]; rw [z9]) | skip)
 by_cases O7 : (rd (rd_L4 a2 a4) 0) = b9
 ·(
 rw [if_pos O7] at H
 obtain ⟨bc4, bc5⟩ := yE O7
 clear O7
 have H' := Aside0.mk H
 clear H
 have d68 := d5.out
 have d69 := d6.out
 have d70 := d8.out
 have d71 := d9.out
 have d72 := e0.out
 have d73 := e1.out
 obtain ⟨bq4, bq5, bq6, bq7⟩ := cf2 a3
 repeat (go_not_at_region 14; go_not_at_region 20; go_not_at_region 29; go_not_at_region 30; go_not_at_region 45; go_not_at_region 83; go_not_at_region 86; first | go_skip | go_guarded | go_step | go_upon)
 go_meet
 case rel => exact ⟨_, (true), sR, H', ⟨laws_FnBeamsGo.jx⟩, ⟨oS a9⟩, (bA a3), (bA a5), (bA a6), (bA a7), ⟨cR a8⟩, ⟨cR b1⟩, ⟨bB⟩⟩
 )
 rw [if_neg O7] at H
 obtain ⟨bc4, bc5⟩ := nE O7
 by_cases O8 : (rd (rd_L4 a2 a4) 1) = 0
 ·(
 rw [if_pos O8] at H
 obtain ⟨bc6, bc7⟩ := yE O8
 clear O8
 have H' := Aside0.mk H
 clear H
 have d74 := d5.out
 have d75 := d6.out
 have d76 := d8.out
 have d77 := d9.out
 have d78 := e0.out
 have d79 := e1.out
 obtain ⟨bq8, bq9, br0, br1⟩ := cf2 a3
 repeat (go_not_at_region 14; go_not_at_region 20; go_not_at_region 29; go_not_at_region 30; go_not_at_region 45; go_not_at_region 83; go_not_at_region 86; first | go_skip | go_guarded | go_step | go_upon)
 go_meet
 case rel => exact ⟨_, (true), sR, H', ⟨laws_FnBeamsGo.jx⟩, ⟨oS a9⟩, (bA a3), (bA a5), (bA a6), (bA a7), ⟨cR a8⟩, ⟨cR b1⟩, ⟨bB⟩⟩
 )
 rw [if_neg O8] at H
 obtain ⟨bc6, bc7⟩ := nE O8
 have H' := Aside0.mk H
 clear H
 have d80 := d5.out
 have d81 := d6.out
 have d82 := d8.out
 have d83 := d9.out
 have d84 := e0.out
 have d85 := e1.out
 obtain ⟨br2, br3, br4, br5⟩ := cf2 a3
 repeat (go_not_at_region 14; go_not_at_region 20; go_not_at_region 29; go_not_at_region 30; go_not_at_region 45; go_not_at_region 83; go_not_at_region 86; first | go_skip | go_guarded | go_step | go_upon)
 go_meet
 case rel => exact ⟨_, (((rd (rd_L4 a2 a4) 1) == b6)), sR, H', ⟨laws_FnBeamsGo.jx⟩, ⟨oS a9⟩, (bA a3), (bA a5), (bA a6), (bA a7), ⟨cR a8⟩, ⟨cR b1⟩, ⟨bB⟩⟩
 )
 )
 clear Z4
 obtain ⟨kq, y8, rfl, HA, HJ202, a9, a3, a5, a6, a7, a8, b1, HB⟩ := hcut
 cases kq with
 | zero => exact absurd HA.out (by simp [laws_FnBeamsGo.j8])
 | succ bj4 => (
 as_aux_lemma => (
 have H := HA.out
 clear HA
 simp only [laws_FnBeamsGo.j8] at H; (try simp only [N7] at H)
 have Z6 := Aside0.mk H
 clear H
 repeat (go_not_at_if 406; first | go_skip | go_guarded | go_step | go_upon)
 go_cut [31, 406] from 31 to 31 (fun v31 bc2 wc => ∃ (kq : Nat) (j4 : Int), v31 = .int .i64 j4 ∧ Aside0 (laws_FnBeamsGo.j9 kq l1 a2 o8 o9 k9 n1 l2 m3 d4 j4 a4 (rd (rd_L4 a2 a4) 0) (rd (rd_L4 a2 a4) 1) b9 b6 c7 c8 c9 d0 g6 g7 g8 g9 = some r) ∧ Aside0 (kq ≤ bj4) ∧ Aside0 (Kd.S (Kd.slice 3 (Kd.int .i64)) 40 wc w.heap.size (fun _ => True) (.slice (some j9) a2.length G0) a2) ∧ Aside0 (wc.heap[e8]? = some (.cells #[.int .i64 b9, .int .i64 b6] 28 (0, 0))) ∧ Aside0 (wc.heap[h4]? = some (.cells #[.int .i64 c7, .int .i64 c8, .bool c9, .bool d0] 30 (0, 0))) ∧ Aside0 (wc.heap[h0]? = some (.cells #[.int .i64 g6, .int .i64 g7, .bool g8, .bool g9] 30 (0, 0))) ∧ Aside0 (wc.heap[e2]? = some (.cells #[.int .i64 h7, .int .i64 h8, .bool h9, .bool i0] 30 (0, 0))) ∧ Aside0 (Kd.C (Kd.int .i64) wc x3 (rd_L4 a2 (g2)).length (rd_L4 a2 (g2))) ∧ Aside0 (Kd.C (Kd.int .i64) wc (some r5) (rd_L4 a2 a4).length (rd_L4 a2 a4)) ∧ Aside0 (Below w.heap.size w wc))
 case first => (
 as_aux_lemma => (
 have H := Z6.out
 clear Z6
 by_cases Z7 : y8 = true
 ·(
 subst Z7
 rw [if_pos rfl] at H
 by_cases Z8 : b2 ≥ (d4.size : Int)
 ·(
 rw [if_pos Z8] at H
 exact fy HT_l H
 )
 rw [if_neg Z8] at H
 have a95 : decide ((d4.size : Int) ≤ b2) = false := decide_eq_false Z8
 clear Z8
 (first | rw [a95] | (simp only [i64_w, i32_w]; rw [a95]) | skip)
 by_cases Z9 : 0 ≤ b2
 ·(
 rw [if_pos Z9] at H
 have d86 : decide (0 ≤ b2) = true := decide_eq_true Z9
 clear Z9
 by_cases a00 : b2 < (d4.size : Int)
 ·(
 rw [if_pos a00] at H
 have d87 : decide (b2 < (d4.size : Int)) = true := decide_eq_true a00
 clear a00
 by_cases O9 : (bt d4 b2) = 114
 ·(
 rw [if_pos O9] at H
 obtain ⟨bc8, bc9⟩ := yE O9
 clear O9
 by_cases a01 : (rd (rd_L4 a2 a4) 0) = b9
 ·(
 rw [if_pos a01] at H
 obtain ⟨d88, d89⟩ := yE a01
 clear a01
 by_cases P0 : (bt d4 b2) = 108
 ·(
 rw [if_pos P0] at H
 obtain ⟨bd0, bd1⟩ := yE P0
 clear P0
 by_cases a02 : (rd (rd_L4 a2 a4) 0) = 0
 ·(
 rw [if_pos a02] at H
 obtain ⟨d90, d91⟩ := yE a02
 clear a02
 by_cases P1 : (bt d4 b2) = 117
 ·(
 rw [if_pos P1] at H
 obtain ⟨bd2, bd3⟩ := yE P1
 clear P1
 by_cases a03 : (rd (rd_L4 a2 a4) 1) = b6
 ·(
 rw [if_pos a03] at H
 obtain ⟨d92, d93⟩ := yE a03
 clear a03
 by_cases P2 : (bt d4 b2) = 100
 ·(
 rw [if_pos P2] at H
 obtain ⟨bd4, bd5⟩ := yE P2
 clear P2
 by_cases a04 : (rd (rd_L4 a2 a4) 1) = 0
 ·(
 rw [if_pos a04] at H
 obtain ⟨d94, d95⟩ := yE a04
 clear a04
 have H' := Aside0.mk H
 clear H
 have e4 : 0 ≤ (b2 : Int) := of_decide_eq_true asm
 have e5 : b2 < (d4.size : Int) := of_decide_eq_true (by first | exact d87 | exact asm)
 have m4 := bt_at d4 b2
 replace e4 := eq_true e4
 replace e5 := eq_true e5
 have d96 := d5.out
 have d97 := d6.out
 have d98 := d8.out
 have d99 := d9.out
 have da0 := e0.out
 have da1 := e1.out
 obtain ⟨br6, br7, br8, br9⟩ := cf2 a3
 repeat (go_not_at_region 14; go_not_at_region 20; go_not_at_region 29; go_not_at_region 30; go_not_at_region 45; go_not_at_region 83; go_not_at_region 86; first | go_skip | go_guarded | go_step | go_upon)
 go_meet
 case rel => exact ⟨_, (wrap64 (b2 + 1)), sR, H', ⟨laws_FnBeamsGo.jx⟩, ⟨oS a9⟩, (bA a3), (bA a5), (bA a6), (bA a7), ⟨cR a8⟩, ⟨cR b1⟩, ⟨bB⟩⟩
 )
 rw [if_neg a04] at H
 exact fy HT_l H
 )
 rw [if_neg P2] at H
 obtain ⟨bd4, bd5⟩ := nE P2
 have H' := Aside0.mk H
 clear H
 have e4 : 0 ≤ (b2 : Int) := of_decide_eq_true asm
 have e5 : b2 < (d4.size : Int) := of_decide_eq_true (by first | exact d87 | exact asm)
 have m4 := bt_at d4 b2
 replace e4 := eq_true e4
 replace e5 := eq_true e5
 have da2 := d5.out
 have da3 := d6.out
 have da4 := d8.out
 have da5 := d9.out
 have da6 := e0.out
 have da7 := e1.out
 obtain ⟨bs0, bs1, bs2, bs3⟩ := cf2 a3
 repeat (go_not_at_region 14; go_not_at_region 20; go_not_at_region 29; go_not_at_region 30; go_not_at_region 45; go_not_at_region 83; go_not_at_region 86; first | go_skip | go_guarded | go_step | go_upon)
 go_meet
 case rel => exact ⟨_, (wrap64 (b2 + 1)), sR, H', ⟨laws_FnBeamsGo.jx⟩, ⟨oS a9⟩, (bA a3), (bA a5), (bA a6), (bA a7), ⟨cR a8⟩, ⟨cR b1⟩, ⟨bB⟩⟩
 )
 rw [if_neg a03] at H
 exact fy HT_l H
 )
 rw [if_neg P1] at H
 obtain ⟨bd2, bd3⟩ := nE P1
 by_cases P3 : (bt d4 b2) = 100
 ·(
 rw [if_pos P3] at H
 obtain ⟨bd6, bd7⟩ := yE P3
 clear P3
 by_cases a05 : (rd (rd_L4 a2 a4) 1) = 0
 ·(
 rw [if_pos a05] at H
 obtain ⟨da8, da9⟩ := yE a05
 clear a05
 have H' := Aside0.mk H
 clear H
 have e4 : 0 ≤ (b2 : Int) := of_decide_eq_true asm
 have e5 : b2 < (d4.size : Int) := of_decide_eq_true (by first | exact d87 | exact asm)
 have m4 := bt_at d4 b2
 replace e4 := eq_true e4
 replace e5 := eq_true e5
 have db0 := d5.out
 have db1 := d6.out
 have db2 := d8.out
 have db3 := d9.out
 have db4 := e0.out
 have db5 := e1.out
 obtain ⟨bs4, bs5, bs6, bs7⟩ := cf2 a3
 repeat (go_not_at_region 14; go_not_at_region 20; go_not_at_region 29; go_not_at_region 30; go_not_at_region 45; go_not_at_region 83; go_not_at_region 86; first | go_skip | go_guarded | go_step | go_upon)
 go_meet
 case rel => exact ⟨_, (wrap64 (b2 + 1)), sR, H', ⟨laws_FnBeamsGo.jx⟩, ⟨oS a9⟩, (bA a3), (bA a5), (bA a6), (bA a7), ⟨cR a8⟩, ⟨cR b1⟩, ⟨bB⟩⟩
 )
 rw [if_neg a05] at H
 exact fy HT_l H
 )
 rw [if_neg P3] at H
 obtain ⟨bd6, bd7⟩ := nE P3
 have H' := Aside0.mk H
 clear H
 have e4 : 0 ≤ (b2 : Int) := of_decide_eq_true asm
 have e5 : b2 < (d4.size : Int) := of_decide_eq_true (by first | exact d87 | exact asm)
 have m4 := bt_at d4 b2
 replace e4 := eq_true e4
 replace e5 := eq_true e5
 have db6 := d5.out
 have db7 := d6.out
 have db8 := d8.out
 have db9 := d9.out
 have dc0 := e0.out
 have dc1 := e1.out
 obtain ⟨bs8, bs9, bt0, bt1⟩ := cf2 a3
 repeat (go_not_at_region 14; go_not_at_region 20; go_not_at_region 29; go_not_at_region 30; go_not_at_region 45; go_not_at_region 83; go_not_at_region 86; first | go_skip | go_guarded | go_step | go_upon)
 go_meet
 case rel => exact ⟨_, (wrap64 (b2 + 1)), sR, H', ⟨laws_FnBeamsGo.jx⟩, ⟨oS a9⟩, (bA a3), (bA a5), (bA a6), (bA a7), ⟨cR a8⟩, ⟨cR b1⟩, ⟨bB⟩⟩
 )
 rw [if_neg a02] at H
 exact fy HT_l H
 )
 rw [if_neg P0] at H
 obtain ⟨bd0, bd1⟩ := nE P0
 by_cases P4 : (bt d4 b2) = 117
 ·(
 rw [if_pos P4] at H
 obtain ⟨bd8, bd9⟩ := yE P4
 clear P4
 by_cases a06 : (rd (rd_L4 a2 a4) 1) = b6
 ·(
 rw [if_pos a06] at H
 obtain ⟨dc2, dc3⟩ := yE a06
 clear a06
 by_cases P5 : (bt d4 b2) = 100
 ·(
 rw [if_pos P5] at H
 obtain ⟨be0, be1⟩ := yE P5
 clear P5
 by_cases a07 : (rd (rd_L4 a2 a4) 1) = 0
 ·(
 rw [if_pos a07] at H
 obtain ⟨dc4, dc5⟩ := yE a07
 clear a07
 have H' := Aside0.mk H
 clear H
 have e4 : 0 ≤ (b2 : Int) := of_decide_eq_true asm
 have e5 : b2 < (d4.size : Int) := of_decide_eq_true (by first | exact d87 | exact asm)
 have m4 := bt_at d4 b2
 replace e4 := eq_true e4
 replace e5 := eq_true e5
 have dc6 := d5.out
 have dc7 := d6.out
 have dc8 := d8.out
 have dc9 := d9.out
 have dd0 := e0.out
 have dd1 := e1.out
 obtain ⟨bt2, bt3, bt4, bt5⟩ := cf2 a3
 repeat (go_not_at_region 14; go_not_at_region 20; go_not_at_region 29; go_not_at_region 30; go_not_at_region 45; go_not_at_region 83; go_not_at_region 86; first | go_skip | go_guarded | go_step | go_upon)
 go_meet
 case rel => exact ⟨_, (wrap64 (b2 + 1)), sR, H', ⟨laws_FnBeamsGo.jx⟩, ⟨oS a9⟩, (bA a3), (bA a5), (bA a6), (bA a7), ⟨cR a8⟩, ⟨cR b1⟩, ⟨bB⟩⟩
 )
 rw [if_neg a07] at H
 exact fy HT_l H
 )
 rw [if_neg P5] at H
 obtain ⟨be0, be1⟩ := nE P5
 have H' := Aside0.mk H
 clear H
 have e4 : 0 ≤ (b2 : Int) := of_decide_eq_true asm
 have e5 : b2 < (d4.size : Int) := of_decide_eq_true (by first | exact d87 | exact asm)
 have m4 := bt_at d4 b2
 replace e4 := eq_true e4
 replace e5 := eq_true e5
 have dd2 := d5.out
 have dd3 := d6.out
 have dd4 := d8.out
 have dd5 := d9.out
 have dd6 := e0.out
 have dd7 := e1.out
 obtain ⟨bt6, bt7, bt8, bt9⟩ := cf2 a3
 repeat (go_not_at_region 14; go_not_at_region 20; go_not_at_region 29; go_not_at_region 30; go_not_at_region 45; go_not_at_region 83; go_not_at_region 86; first | go_skip | go_guarded | go_step | go_upon)
 go_meet
 case rel => exact ⟨_, (wrap64 (b2 + 1)), sR, H', ⟨laws_FnBeamsGo.jx⟩, ⟨oS a9⟩, (bA a3), (bA a5), (bA a6), (bA a7), ⟨cR a8⟩, ⟨cR b1⟩, ⟨bB⟩⟩
 )
 rw [if_neg a06] at H
 exact fy HT_l H
 )
 rw [if_neg P4] at H
 obtain ⟨bd8, bd9⟩ := nE P4
 by_cases P6 : (bt d4 b2) = 100
 ·(
 rw [if_pos P6] at H
 obtain ⟨be2, be3⟩ := yE P6
 clear P6
 by_cases a08 : (rd (rd_L4 a2 a4) 1) = 0
 ·(
 rw [if_pos a08] at H
 obtain ⟨dd8, dd9⟩ := yE a08
 clear a08
 have H' := Aside0.mk H
 clear H
 have e4 : 0 ≤ (b2 : Int) := of_decide_eq_true asm
 have e5 : b2 < (d4.size : Int) := of_decide_eq_true (by first | exact d87 | exact asm)
 have m4 := bt_at d4 b2
 replace e4 := eq_true e4
 replace e5 := eq_true e5
 have de0 := d5.out
 have de1 := d6.out
 have de2 := d8.out
 have de3 := d9.out
 have de4 := e0.out
 have de5 := e1.out
 obtain ⟨bu0, bu1, bu2, bu3⟩ := cf2 a3
 repeat (go_not_at_region 14; go_not_at_region 20; go_not_at_region 29; go_not_at_region 30; go_not_at_region 45; go_not_at_region 83; go_not_at_region 86; first | go_skip | go_guarded | go_step | go_upon)
 go_meet
 case rel => exact ⟨_, (wrap64 (b2 + 1)), sR, H', ⟨laws_FnBeamsGo.jx⟩, ⟨oS a9⟩, (bA a3), (bA a5), (bA a6), (bA a7), ⟨cR a8⟩, ⟨cR b1⟩, ⟨bB⟩⟩
 )
 rw [if_neg a08] at H
 exact fy HT_l H
 )
 rw [if_neg P6] at H
 obtain ⟨be2, be3⟩ := nE P6
 have H' := Aside0.mk H
 clear H
 have e4 : 0 ≤ (b2 : Int) := of_decide_eq_true asm
 have e5 : b2 < (d4.size : Int) := of_decide_eq_true (by first | exact d87 | exact asm)
 have m4 := bt_at d4 b2
 replace e4 := eq_true e4
 replace e5 := eq_true e5
 have de6 := d5.out
 have de7 := d6.out
 have de8 := d8.out
 have de9 := d9.out
 have df0 := e0.out
 have df1 := e1.out
 obtain ⟨bu4, bu5, bu6, bu7⟩ := cf2 a3
 repeat (go_not_at_region 14; go_not_at_region 20; go_not_at_region 29; go_not_at_region 30; go_not_at_region 45; go_not_at_region 83; go_not_at_region 86; first | go_skip | go_guarded | go_step | go_upon)
 go_meet
 case rel => exact ⟨_, (wrap64 (b2 + 1)), sR, H', ⟨laws_FnBeamsGo.jx⟩, ⟨oS a9⟩, (bA a3), (bA a5), (bA a6), (bA a7), ⟨cR a8⟩, ⟨cR b1⟩, ⟨bB⟩⟩
 )
 rw [if_neg a01] at H
 exact fy HT_l H
 )
 rw [if_neg O9] at H
 obtain ⟨bc8, bc9⟩ := nE O9
 by_cases P7 : (bt d4 b2) = 108
 ·(
 rw [if_pos P7] at H
 obtain ⟨be4, be5⟩ := yE P7
 clear P7
 by_cases a09 : (rd (rd_L4 a2 a4) 0) = 0
 ·(
 rw [if_pos a09] at H
 obtain ⟨df2, df3⟩ := yE a09
 clear a09
 by_cases P8 : (bt d4 b2) = 117
 ·(
 rw [if_pos P8] at H
 obtain ⟨be6, be7⟩ := yE P8
 clear P8
 by_cases a10 : (rd (rd_L4 a2 a4) 1) = b6
 ·(
 rw [if_pos a10] at H
 obtain ⟨df4, df5⟩ := yE a10
 clear a10
 by_cases P9 : (bt d4 b2) = 100
 ·(
 rw [if_pos P9] at H
 obtain ⟨be8, be9⟩ := yE P9
 clear P9
 by_cases a11 : (rd (rd_L4 a2 a4) 1) = 0
 ·(
 rw [if_pos a11] at H
 obtain ⟨df6, df7⟩ := yE a11
 clear a11
 have H' := Aside0.mk H
 clear H
 have e4 : 0 ≤ (b2 : Int) := of_decide_eq_true asm
 have e5 : b2 < (d4.size : Int) := of_decide_eq_true (by first | exact d87 | exact asm)
 have m4 := bt_at d4 b2
 replace e4 := eq_true e4
 replace e5 := eq_true e5
 have df8 := d5.out
 have df9 := d6.out
 have dg0 := d8.out
 have dg1 := d9.out
 have dg2 := e0.out
 have dg3 := e1.out
 obtain ⟨bu8, bu9, bv0, bv1⟩ := cf2 a3
 repeat (go_not_at_region 14; go_not_at_region 20; go_not_at_region 29; go_not_at_region 30; go_not_at_region 45; go_not_at_region 83; go_not_at_region 86; first | go_skip | go_guarded | go_step | go_upon)
 go_meet
 case rel => exact ⟨_, (wrap64 (b2 + 1)), sR, H', ⟨laws_FnBeamsGo.jx⟩, ⟨oS a9⟩, (bA a3), (bA a5), (bA a6), (bA a7), ⟨cR a8⟩, ⟨cR b1⟩, ⟨bB⟩⟩
 )
 rw [if_neg a11] at H
 exact fy HT_l H
 )
 rw [if_neg P9] at H
 obtain ⟨be8, be9⟩ := nE P9
 have H' := Aside0.mk H
 clear H
 have e4 : 0 ≤ (b2 : Int) := of_decide_eq_true asm
 have e5 : b2 < (d4.size : Int) := of_decide_eq_true (by first | exact d87 | exact asm)
 have m4 := bt_at d4 b2
 replace e4 := eq_true e4
 replace e5 := eq_true e5
 have dg4 := d5.out
 have dg5 := d6.out
 have dg6 := d8.out
 have dg7 := d9.out
 have dg8 := e0.out
 have dg9 := e1.out
 obtain ⟨bv2, bv3, bv4, bv5⟩ := cf2 a3
 repeat (go_not_at_region 14; go_not_at_region 20; go_not_at_region 29; go_not_at_region 30; go_not_at_region 45; go_not_at_region 83; go_not_at_region 86; first | go_skip | go_guarded | go_step | go_upon)
 go_meet
 case rel => exact ⟨_, (wrap64 (b2 + 1)), sR, H', ⟨laws_FnBeamsGo.jx⟩, ⟨oS a9⟩, (bA a3), (bA a5), (bA a6), (bA a7), ⟨cR a8⟩, ⟨cR b1⟩, ⟨bB⟩⟩
 )
 rw [if_neg a10] at H
 exact fy HT_l H
 )
 rw [if_neg P8] at H
 obtain ⟨be6, be7⟩ := nE P8
 by_cases R0 : (bt d4 b2) = 100
 ·(
 rw [if_pos R0] at H
 obtain ⟨bf0, bf1⟩ := yE R0
 clear R0
 by_cases a12 : (rd (rd_L4 a2 a4) 1) = 0
 ·(
 rw [if_pos a12] at H
 obtain ⟨dh0, dh1⟩ := yE a12
 clear a12
 have H' := Aside0.mk H
 clear H
 have e4 : 0 ≤ (b2 : Int) := of_decide_eq_true asm
 have e5 : b2 < (d4.size : Int) := of_decide_eq_true (by first | exact d87 | exact asm)
 have m4 := bt_at d4 b2
 replace e4 := eq_true e4
 replace e5 := eq_true e5
 repeat (go_not_at_region 14; go_not_at_region 20; go_not_at_region 29; go_not_at_region 30; go_not_at_region 45; go_not_at_region 83; go_not_at_region 86; first | go_skip | go_guarded | go_step | go_upon)
 go_meet
 case rel => exact ⟨_, (wrap64 (b2 + 1)), sR, H', ⟨laws_FnBeamsGo.jx⟩, ⟨oS a9⟩, (bA a3), (bA a5), (bA a6), (bA a7), ⟨cR a8⟩, ⟨cR b1⟩, ⟨bB⟩⟩
 )
 rw [if_neg a12] at H
 exact fy HT_l H
 )
 rw [if_neg R0] at H
 obtain ⟨bf0, bf1⟩ := nE R0
 have H' := Aside0.mk H
 clear H
 have e4 : 0 ≤ (b2 : Int) := of_decide_eq_true asm
 have e5 : b2 < (d4.size : Int) := of_decide_eq_true (by first | exact d87 | exact asm)
 have m4 := bt_at d4 b2
 replace e4 := eq_true e4
 replace e5 := eq_true e5
 repeat (go_not_at_region 14; go_not_at_region 20; go_not_at_region 29; go_not_at_region 30; go_not_at_region 45; go_not_at_region 83; go_not_at_region 86; first | go_skip | go_guarded | go_step | go_upon)
 go_meet
 case rel => exact ⟨_, (wrap64 (b2 + 1)), sR, H', ⟨laws_FnBeamsGo.jx⟩, ⟨oS a9⟩, (bA a3), (bA a5), (bA a6), (bA a7), ⟨cR a8⟩, ⟨cR b1⟩, ⟨bB⟩⟩
 )
 rw [if_neg a09] at H
 exact fy HT_l H
 )
 rw [if_neg P7] at H
 obtain ⟨be4, be5⟩ := nE P7
 by_cases R1 : (bt d4 b2) = 117
 ·(
 rw [if_pos R1] at H
 obtain ⟨bf2, bf3⟩ := yE R1
 clear R1
 by_cases a13 : (rd (rd_L4 a2 a4) 1) = b6
 ·(
 rw [if_pos a13] at H
 obtain ⟨dh2, dh3⟩ := yE a13
 clear a13
 by_cases R2 : (bt d4 b2) = 100
 ·(
 rw [if_pos R2] at H
 obtain ⟨bf4, bf5⟩ := yE R2
 clear R2
 by_cases a14 : (rd (rd_L4 a2 a4) 1) = 0
 ·(
 rw [if_pos a14] at H
 obtain ⟨dh4, dh5⟩ := yE a14
 clear a14
 have H' := Aside0.mk H
 clear H
 have e4 : 0 ≤ (b2 : Int) := of_decide_eq_true asm
 have e5 : b2 < (d4.size : Int) := of_decide_eq_true (by first | exact d87 | exact asm)
 have m4 := bt_at d4 b2
 replace e4 := eq_true e4
 replace e5 := eq_true e5
 have dh6 := d5.out
 have dh7 := d6.out
 have dh8 := d8.out
 have dh9 := d9.out
 have di0 := e0.out
 have di1 := e1.out
 obtain ⟨bv6, bv7, bv8, bv9⟩ := cf2 a3
 repeat (go_not_at_region 14; go_not_at_region 20; go_not_at_region 29; go_not_at_region 30; go_not_at_region 45; go_not_at_region 83; go_not_at_region 86; first | go_skip | go_guarded | go_step | go_upon)
 go_meet
 case rel => exact ⟨_, (wrap64 (b2 + 1)), sR, H', ⟨laws_FnBeamsGo.jx⟩, ⟨oS a9⟩, (bA a3), (bA a5), (bA a6), (bA a7), ⟨cR a8⟩, ⟨cR b1⟩, ⟨bB⟩⟩
 )
 rw [if_neg a14] at H
 exact fy HT_l H
 )
 rw [if_neg R2] at H
 obtain ⟨bf4, bf5⟩ := nE R2
 have H' := Aside0.mk H
 clear H
 have e4 : 0 ≤ (b2 : Int) := of_decide_eq_true asm
 have e5 : b2 < (d4.size : Int) := of_decide_eq_true (by first | exact d87 | exact asm)
 have m4 := bt_at d4 b2
 replace e4 := eq_true e4
 replace e5 := eq_true e5
 have di2 := d5.out
 have di3 := d6.out
 have di4 := d8.out
 have di5 := d9.out
 have di6 := e0.out
 have di7 := e1.out
 obtain ⟨bw0, bw1, bw2, bw3⟩ := cf2 a3
 repeat (go_not_at_region 14; go_not_at_region 20; go_not_at_region 29; go_not_at_region 30; go_not_at_region 45; go_not_at_region 83; go_not_at_region 86; first | go_skip | go_guarded | go_step | go_upon)
 go_meet
 case rel => exact ⟨_, (wrap64 (b2 + 1)), sR, H', ⟨laws_FnBeamsGo.jx⟩, ⟨oS a9⟩, (bA a3), (bA a5), (bA a6), (bA a7), ⟨cR a8⟩, ⟨cR b1⟩, ⟨bB⟩⟩
 )
 rw [if_neg a13] at H
 exact fy HT_l H
 )
 rw [if_neg R1] at H
 obtain ⟨bf2, bf3⟩ := nE R1
 by_cases R3 : (bt d4 b2) = 100
 ·(
 rw [if_pos R3] at H
 obtain ⟨bf6, bf7⟩ := yE R3
 clear R3
 by_cases a15 : (rd (rd_L4 a2 a4) 1) = 0
 ·(
 rw [if_pos a15] at H
 obtain ⟨di8, di9⟩ := yE a15
 clear a15
 have H' := Aside0.mk H
 clear H
 have e4 : 0 ≤ (b2 : Int) := of_decide_eq_true asm
 have e5 : b2 < (d4.size : Int) := of_decide_eq_true (by first | exact d87 | exact asm)
 have m4 := bt_at d4 b2
 replace e4 := eq_true e4
 replace e5 := eq_true e5
 repeat (go_not_at_region 14; go_not_at_region 20; go_not_at_region 29; go_not_at_region 30; go_not_at_region 45; go_not_at_region 83; go_not_at_region 86; first | go_skip | go_guarded | go_step | go_upon)
 go_meet
 case rel => exact ⟨_, (wrap64 (b2 + 1)), sR, H', ⟨laws_FnBeamsGo.jx⟩, ⟨oS a9⟩, (bA a3), (bA a5), (bA a6), (bA a7), ⟨cR a8⟩, ⟨cR b1⟩, ⟨bB⟩⟩
 )
 rw [if_neg a15] at H
 exact fy HT_l H
 )
 rw [if_neg R3] at H
 obtain ⟨bf6, bf7⟩ := nE R3
 have H' := Aside0.mk H
 clear H
 have e4 : 0 ≤ (b2 : Int) := of_decide_eq_true asm
 have e5 : b2 < (d4.size : Int) := of_decide_eq_true (by first | exact d87 | exact asm)
 have m4 := bt_at d4 b2
 replace e4 := eq_true e4
 replace e5 := eq_true e5
 repeat (go_not_at_region 14; go_not_at_region 20; go_not_at_region 29; go_not_at_region 30; go_not_at_region 45; go_not_at_region 83; go_not_at_region 86; first | go_skip | go_guarded | go_step | go_upon)
 go_meet
 case rel => exact ⟨_, (wrap64 (b2 + 1)), sR, H', ⟨laws_FnBeamsGo.jx⟩, ⟨oS a9⟩, (bA a3), (bA a5), (bA a6), (bA a7), ⟨cR a8⟩, ⟨cR b1⟩, ⟨bB⟩⟩
 )
 rw [if_neg a00] at H
 exact absurd H (by simp)
 )
 rw [if_neg Z9] at H
 exact absurd H (by simp)
 )
 replace Z7 := Bool.eq_false_iff.mpr Z7
 subst Z7
 rw [if_neg nft] at H
 have H' := Aside0.mk H
 clear H
 repeat (go_not_at_region 14; go_not_at_region 20; go_not_at_region 29; go_not_at_region 30; go_not_at_region 45; go_not_at_region 83; go_not_at_region 86; first | go_skip | go_guarded | go_step | go_upon)
 go_meet
 case rel => exact ⟨_, (b2), sR, H', ⟨laws_FnBeamsGo.jx⟩, ⟨oS a9⟩, (bA a3), (bA a5), (bA a6), (bA a7), ⟨cR a8⟩, ⟨cR b1⟩, ⟨bB⟩⟩
 )
 )
 clear Z6
 obtain ⟨kq, j4, rfl, HA, HJ219, a9, a3, a5, a6, a7, a8, b1, HB⟩ := hcut
 cases kq with
 | zero => exact absurd HA.out (by simp [laws_FnBeamsGo.j9])
 | succ q8 => (
 as_aux_lemma => (
 have H := HA.out
 clear HA
 simp only [laws_FnBeamsGo.j9] at H; (try simp only [N7] at H)
 by_cases I7 : a4 > 1
 ·(
 rw [if_pos I7] at H
 have bf8 : decide (1 < a4) = true := decide_eq_true I7
 clear I7
 obtain ⟨b3, R4⟩ : ∃ j_ : Int, (wrap64 (a4 - 2)) = j_ := ⟨_, rfl⟩
 (first | rw [R4] at H | simp only [R4] at H)
 have cz2 : (IntKind.i64.wrap (a4 - 2)) = b3 := (i64_w _).trans R4
 by_cases a16 : 0 ≤ (b3)
 ·(
 rw [if_pos a16] at H
 have dj0 : decide (0 ≤ (b3)) = true := decide_eq_true a16
 clear a16
 by_cases a17 : (b3) < (a2.length : Int)
 ·(
 rw [if_pos a17] at H
 have dj1 : decide ((b3) < (a2.length : Int)) = true := decide_eq_true a17
 clear a17
 by_cases a18 : 0 < ((rd_L4 a2 (g2)).length : Int)
 ·(
 rw [if_pos a18] at H
 have dj2 : decide (0 < ((rd_L4 a2 (g2)).length : Int)) = true := decide_eq_true a18
 have dj3 : decide (0 < (rd_L4 a2 (g2)).length) = true := decide_eq_true (nl0 a18)
 clear a18
 by_cases I8 : (rd (rd_L4 a2 (g2)) 0) > 0
 ·(
 rw [if_pos I8] at H
 have bf9 : decide (0 < (rd (rd_L4 a2 (g2)) 0)) = true := decide_eq_true I8
 clear I8
 by_cases I9 : (rd (rd_L4 a2 (g2)) 0) < b9
 ·(
 rw [if_pos I9] at H
 have bg0 : decide ((rd (rd_L4 a2 (g2)) 0) < b9) = true := decide_eq_true I9
 clear I9
 by_cases a19 : 0 < ((rd_L4 a2 (b3)).length : Int)
 ·(
 rw [if_pos a19] at H
 have dj4 : decide (0 < ((rd_L4 a2 (b3)).length : Int)) = true := decide_eq_true a19
 have dj5 : decide (0 < (rd_L4 a2 (b3)).length) = true := decide_eq_true (nl0 a19)
 clear a19
 by_cases a20 : (wrap64 ((rd (rd_L4 a2 a4) 0) - (rd (rd_L4 a2 (g2)) 0))) = (wrap64 ((rd (rd_L4 a2 (g2)) 0) - (rd (rd_L4 a2 (b3)) 0)))
 ·(
 rw [if_pos a20] at H
 obtain ⟨dj6, dj7⟩ := yE a20
 clear a20
 by_cases a21 : 1 < ((rd_L4 a2 (g2)).length : Int)
 ·(
 rw [if_pos a21] at H
 have dj8 : decide (1 < ((rd_L4 a2 (g2)).length : Int)) = true := decide_eq_true a21
 have dj9 : decide (1 < (rd_L4 a2 (g2)).length) = true := decide_eq_true (nl1 a21)
 clear a21
 by_cases J0 : (rd (rd_L4 a2 (g2)) 1) > 0
 ·(
 rw [if_pos J0] at H
 have bg1 : decide (0 < (rd (rd_L4 a2 (g2)) 1)) = true := decide_eq_true J0
 clear J0
 by_cases J1 : (rd (rd_L4 a2 (g2)) 1) < b6
 ·(
 rw [if_pos J1] at H
 have bg2 : decide ((rd (rd_L4 a2 (g2)) 1) < b6) = true := decide_eq_true J1
 clear J1
 by_cases a22 : 1 < ((rd_L4 a2 (b3)).length : Int)
 ·(
 rw [if_pos a22] at H
 have dk0 : decide (1 < ((rd_L4 a2 (b3)).length : Int)) = true := decide_eq_true a22
 have dk1 : decide (1 < (rd_L4 a2 (b3)).length) = true := decide_eq_true (nl1 a22)
 clear a22
 by_cases a23 : (wrap64 ((rd (rd_L4 a2 a4) 1) - (rd (rd_L4 a2 (g2)) 1))) = (wrap64 ((rd (rd_L4 a2 (g2)) 1) - (rd (rd_L4 a2 (b3)) 1)))
 ·(
 rw [if_pos a23] at H
 obtain ⟨dk2, dk3⟩ := yE a23
 clear a23
 have H' := Aside0.mk H
 clear H
 have g0 : 0 ≤ ((b3) : Int) := of_decide_eq_true asm
 have g1 : (b3) < (a2.length : Int) := of_decide_eq_true (by first | exact dj1 | exact asm)
 obtain ⟨k0, q9, r0, n2, h5, e6, e7⟩ := at_L4 (Kd.S_reads' a9.out).2.2 (b3) g0 g1
 obtain rfl : j9 = k0 := (by injection n2)
 obtain ⟨uz7, i1, i2, g5⟩ := Kd.S_get a9.out [] (b3) g0 (by first | exact g1 | exact of_decide_eq_true asm | (have e_ := (Kd.S_reads' a9.out).1; omega))
 obtain ⟨p2, rfl, d1⟩ := i2
 have b7 := g5 0 _ rfl
 rw [Nat.add_zero, show ((Kd.slice 3 (Kd.int .i64))).sz = 1 from rfl, Nat.mul_one] at b7
 replace b7 := Option.some.inj (b7.symm.trans h5)
 rw [b7] at d1
 have d2 := Aside0.mk (show Kd.R (Kd.int .i64) 3 _ _ _ _ (rd_L4 a2 (b3)) from d1)
 clear b7 d1 g5 i1
 have c5 := Aside0.mk e7
 have p3 := Aside0.mk e6
 clear e7 e6
 replace g0 := eq_true g0
 replace g1 := eq_true g1
 repeat (go_not_at_region 14; go_not_at_region 20; go_not_at_region 29; go_not_at_region 30; go_not_at_region 45; go_not_at_region 83; go_not_at_region 86; first | go_skip | go_guarded | go_step | go_upon)
 replace a9 := Aside0.mk (Kd.S_drew a9.out)
 replace d2 := Aside0.mk (Kd.R_drew d2.out)
 replace a3 := bD1 a3
 replace a5 := bD1 a5
 replace a6 := bD1 a6
 replace a7 := bD1 a7
 replace a8 := Aside0.mk (Kd.C_drew a8.out)
 replace b1 := Aside0.mk (Kd.C_drew b1.out)
 replace c5 := Aside0.mk (Kd.C_drew c5.out)
 replace HB := Aside0.mk (below_drew1 HB.out)
 have h2 : 0 ≤ (0 : Int) := (by decide)
 have h3 : 0 < ((rd_L4 a2 (g2)).length : Int) := of_decide_eq_true (by first | exact dj2 | exact d31 | exact asm)
 obtain ⟨b0, n3, c3⟩ := Kd.at_int (cR a8) 0 h2 h3
 cases n3
 have uz9 : (0 < (rd_L4 a2 (g2)).length) = True := eq_true (nl0 h3)
 (try rw [show ((0 : Int)).toNat = 0 from rfl] at c3)
 (try rw [Addr.add_zero'] at c3)
 replace h2 := eq_true h2
 replace h3 := eq_true h3
 have j5 : 0 ≤ (0 : Int) := (by decide)
 have j6 : 0 < ((rd_L4 a2 (g2)).length : Int) := of_decide_eq_true (by first | exact dj2 | exact d31 | exact asm)
 obtain ⟨q5, r8, e3⟩ := Kd.at_int (cR a8) 0 j5 j6
 obtain rfl : b0 = q5 := (by injection r8)
 have G1 : (0 < (rd_L4 a2 (g2)).length) = True := eq_true (nl0 j6)
 (try rw [show ((0 : Int)).toNat = 0 from rfl] at e3)
 (try rw [Addr.add_zero'] at e3)
 replace j5 := eq_true j5
 replace j6 := eq_true j6
 have r9 : 0 ≤ (0 : Int) := (by decide)
 have s0 : 0 < ((rd_L4 a2 (g2)).length : Int) := of_decide_eq_true (by first | exact dj2 | exact d31 | exact asm)
 obtain ⟨G2, R5, i3⟩ := Kd.at_int (cR a8) 0 r9 s0
 obtain rfl : b0 = G2 := (by injection R5)
 have b32 : (0 < (rd_L4 a2 (g2)).length) = True := eq_true (nl0 s0)
 (try rw [show ((0 : Int)).toNat = 0 from rfl] at i3)
 (try rw [Addr.add_zero'] at i3)
 replace r9 := eq_true r9
 replace s0 := eq_true s0
 have s1 : 0 ≤ (0 : Int) := (by decide)
 have s2 : 0 < ((rd_L4 a2 (g2)).length : Int) := of_decide_eq_true (by first | exact dj2 | exact d31 | exact asm)
 obtain ⟨G3, R6, i4⟩ := Kd.at_int (cR a8) 0 s1 s2
 obtain rfl : b0 = G3 := (by injection R6)
 have b33 : (0 < (rd_L4 a2 (g2)).length) = True := eq_true (nl0 s2)
 (try rw [show ((0 : Int)).toNat = 0 from rfl] at i4)
 (try rw [Addr.add_zero'] at i4)
 replace s1 := eq_true s1
 replace s2 := eq_true s2
 have s3 : 0 ≤ (0 : Int) := (by decide)
 have s4 : 0 < ((rd_L4 a2 (b3)).length : Int) := of_decide_eq_true (by first | exact dj4 | exact asm)
 obtain ⟨v0, R7, i5⟩ := Kd.at_int (cR c5) 0 s3 s4
 cases R7
 have b34 : (0 < (rd_L4 a2 (b3)).length) = True := eq_true (nl0 s4)
 (try rw [show ((0 : Int)).toNat = 0 from rfl] at i5)
 (try rw [Addr.add_zero'] at i5)
 replace s3 := eq_true s3
 replace s4 := eq_true s4
 have s5 : 0 ≤ (1 : Int) := (by decide)
 have s6 : 1 < ((rd_L4 a2 (g2)).length : Int) := of_decide_eq_true (by first | exact dj8 | exact d35 | exact asm)
 obtain ⟨G4, R8, i6⟩ := Kd.at_int (cR a8) 1 s5 s6
 obtain rfl : b0 = G4 := (by injection R8)
 (try simp only [show (1 : Int).toNat = 1 from rfl, Nat.reduceMul, Nat.reduceEqDiff, Go.Addr.add, ↓reduceIte] at i6)
 have b35 : (1 < (rd_L4 a2 (g2)).length) = True := eq_true (nl1 s6)
 (try rw [show ((1 : Int)).toNat = 1 from rfl] at i6)
 replace s5 := eq_true s5
 replace s6 := eq_true s6
 have F0 : 0 ≤ (1 : Int) := (by decide)
 have F1 : 1 < ((rd_L4 a2 (g2)).length : Int) := of_decide_eq_true (by first | exact dj8 | exact d35 | exact asm)
 obtain ⟨a24, ag9, o5⟩ := Kd.at_int (cR a8) 1 F0 F1
 obtain rfl : b0 = a24 := (by injection ag9)
 (try simp only [show (1 : Int).toNat = 1 from rfl, Nat.reduceMul, Nat.reduceEqDiff, Go.Addr.add, ↓reduceIte] at o5)
 have bj5 : (1 < (rd_L4 a2 (g2)).length) = True := eq_true (nl1 F1)
 (try rw [show ((1 : Int)).toNat = 1 from rfl] at o5)
 replace F0 := eq_true F0
 replace F1 := eq_true F1
 have ah0 : 0 ≤ (1 : Int) := (by decide)
 have ah1 : 1 < ((rd_L4 a2 (g2)).length : Int) := of_decide_eq_true (by first | exact dj8 | exact d35 | exact asm)
 obtain ⟨bj6, bw4, D9⟩ := Kd.at_int (cR a8) 1 ah0 ah1
 obtain rfl : b0 = bj6 := (by injection bw4)
 (try simp only [show (1 : Int).toNat = 1 from rfl, Nat.reduceMul, Nat.reduceEqDiff, Go.Addr.add, ↓reduceIte] at D9)
 have gc0 : (1 < (rd_L4 a2 (g2)).length) = True := eq_true (nl1 ah1)
 (try rw [show ((1 : Int)).toNat = 1 from rfl] at D9)
 replace ah0 := eq_true ah0
 replace ah1 := eq_true ah1
 have ah2 : 0 ≤ (1 : Int) := (by decide)
 have ah3 : 1 < ((rd_L4 a2 (g2)).length : Int) := of_decide_eq_true (by first | exact dj8 | exact d35 | exact asm)
 obtain ⟨bj7, bw5, E0⟩ := Kd.at_int (cR a8) 1 ah2 ah3
 obtain rfl : b0 = bj7 := (by injection bw5)
 (try simp only [show (1 : Int).toNat = 1 from rfl, Nat.reduceMul, Nat.reduceEqDiff, Go.Addr.add, ↓reduceIte] at E0)
 have gc1 : (1 < (rd_L4 a2 (g2)).length) = True := eq_true (nl1 ah3)
 (try rw [show ((1 : Int)).toNat = 1 from rfl] at E0)
 replace ah2 := eq_true ah2
 replace ah3 := eq_true ah3
 have ah4 : 0 ≤ (1 : Int) := (by decide)
 have ah5 : 1 < ((rd_L4 a2 (b3)).length : Int) := of_decide_eq_true (by first | exact dk0 | exact asm)
 obtain ⟨bj8, bw6, E1⟩ := Kd.at_int (cR c5) 1 ah4 ah5
 obtain rfl : v0 = bj8 := (by injection bw6)
 (try simp only [show (1 : Int).toNat = 1 from rfl, Nat.reduceMul, Nat.reduceEqDiff, Go.Addr.add, ↓reduceIte] at E1)
 have gc2 : (1 < (rd_L4 a2 (b3)).length) = True := eq_true (nl1 ah5)
 (try rw [show ((1 : Int)).toNat = 1 from rfl] at E1)
 replace ah4 := eq_true ah4
 replace ah5 := eq_true ah5
 as_aux_lemma => (
 refine st_ 56 laws_FnBeamsGo.pl2 (S := fun w' => w'.cell? ⟨e8, 0, none⟩ = some (.int .i64 b9) ∧ w'.cell? ⟨e8, 1, none⟩ = some (.int .i64 b6) ∧ w'.cell? b0 = some (.int .i64 (rd (rd_L4 a2 (g2)) 0)) ∧ w'.cell? b0 = some (.int .i64 (rd (rd_L4 a2 (g2)) 0)) ∧ w'.cell? b0 = some (.int .i64 (rd (rd_L4 a2 (g2)) 0)) ∧ w'.cell? b0 = some (.int .i64 (rd (rd_L4 a2 (g2)) 0)) ∧ w'.cell? v0 = some (.int .i64 (rd (rd_L4 a2 (b3)) 0)) ∧ w'.cell? ⟨b0.block, b0.off + 1, none⟩ = some (.int .i64 (rd (rd_L4 a2 (g2)) 1)) ∧ w'.cell? ⟨b0.block, b0.off + 1, none⟩ = some (.int .i64 (rd (rd_L4 a2 (g2)) 1)) ∧ w'.cell? ⟨b0.block, b0.off + 1, none⟩ = some (.int .i64 (rd (rd_L4 a2 (g2)) 1)) ∧ w'.cell? ⟨b0.block, b0.off + 1, none⟩ = some (.int .i64 (rd (rd_L4 a2 (g2)) 1)) ∧ w'.cell? ⟨v0.block, v0.off + 1, none⟩ = some (.int .i64 (rd (rd_L4 a2 (b3)) 1))) (ds := []) laws_FnBeamsGo.tab45 laws_FnBeamsGo.bits45 ⟨cb a3 0, cb a3 1, c3, e3, i3, i4, i5, i6, o5, D9, E0, E1⟩ (fun hHeld HT_ HW_ => ?_)
 generalize wc.drew = gg4 at a9 d2 a3 a5 a6 a7 a8 b1 c5 HB c3 e3 i3 i4 i5 i6 o5 D9 E0 E1 hHeld ⊢
 iterate 56 (first | refine rA HT_ ?_ | refine rT HT_ HW_ hHeld ?_)
 refine pD HT_ ?_
 repeat (go_not_at_region 14; go_not_at_region 20; go_not_at_region 29; go_not_at_region 30; go_not_at_region 45; go_not_at_region 83; go_not_at_region 86; first | go_skip | go_guarded | go_step | go_upon)
 (try rw [dSet])
 go_roundg q8
 case measure => exact laws_FnBeamsGo.jx
 case rel => exact ⟨(j4), (wrap64 (a4 + 1)), sR, sR, H', ⟨laws_FnBeamsGo.jx⟩, ⟨oS a9⟩, (bA a3), (bA a5), (bA a6), (bA a7), ⟨bB⟩⟩
 )
 )
 rw [if_neg a23] at H
 exact fy HT_l H
 )
 rw [if_neg a22] at H
 exact absurd H (by simp)
 )
 rw [if_neg J1] at H
 have bg2 : decide ((rd (rd_L4 a2 (g2)) 1) < b6) = false := decide_eq_false J1
 clear J1
 have H' := Aside0.mk H
 clear H
 have g0 : 0 ≤ ((b3) : Int) := of_decide_eq_true asm
 have g1 : (b3) < (a2.length : Int) := of_decide_eq_true (by first | exact dj1 | exact asm)
 obtain ⟨k0, q9, r0, n2, h5, e6, e7⟩ := at_L4 (Kd.S_reads' a9.out).2.2 (b3) g0 g1
 obtain rfl : j9 = k0 := (by injection n2)
 obtain ⟨uz7, i1, i2, g5⟩ := Kd.S_get a9.out [] (b3) g0 (by first | exact g1 | exact of_decide_eq_true asm | (have e_ := (Kd.S_reads' a9.out).1; omega))
 obtain ⟨p2, rfl, d1⟩ := i2
 have b7 := g5 0 _ rfl
 rw [Nat.add_zero, show ((Kd.slice 3 (Kd.int .i64))).sz = 1 from rfl, Nat.mul_one] at b7
 replace b7 := Option.some.inj (b7.symm.trans h5)
 rw [b7] at d1
 have d2 := Aside0.mk (show Kd.R (Kd.int .i64) 3 _ _ _ _ (rd_L4 a2 (b3)) from d1)
 clear b7 d1 g5 i1
 have c5 := Aside0.mk e7
 have p3 := Aside0.mk e6
 clear e7 e6
 replace g0 := eq_true g0
 replace g1 := eq_true g1
 repeat (go_not_at_region 14; go_not_at_region 20; go_not_at_region 29; go_not_at_region 30; go_not_at_region 45; go_not_at_region 83; go_not_at_region 86; first | go_skip | go_guarded | go_step | go_upon)
 replace a9 := Aside0.mk (Kd.S_drew a9.out)
 replace d2 := Aside0.mk (Kd.R_drew d2.out)
 replace a3 := bD1 a3
 replace a5 := bD1 a5
 replace a6 := bD1 a6
 replace a7 := bD1 a7
 replace a8 := Aside0.mk (Kd.C_drew a8.out)
 replace b1 := Aside0.mk (Kd.C_drew b1.out)
 replace c5 := Aside0.mk (Kd.C_drew c5.out)
 replace HB := Aside0.mk (below_drew1 HB.out)
 have h2 : 0 ≤ (0 : Int) := (by decide)
 have h3 : 0 < ((rd_L4 a2 (g2)).length : Int) := of_decide_eq_true (by first | exact dj2 | exact d31 | exact asm)
 obtain ⟨b0, n3, c3⟩ := Kd.at_int (cR a8) 0 h2 h3
 cases n3
 have uz9 : (0 < (rd_L4 a2 (g2)).length) = True := eq_true (nl0 h3)
 (try rw [show ((0 : Int)).toNat = 0 from rfl] at c3)
 (try rw [Addr.add_zero'] at c3)
 replace h2 := eq_true h2
 replace h3 := eq_true h3
 have j5 : 0 ≤ (0 : Int) := (by decide)
 have j6 : 0 < ((rd_L4 a2 (g2)).length : Int) := of_decide_eq_true (by first | exact dj2 | exact d31 | exact asm)
 obtain ⟨q5, r8, e3⟩ := Kd.at_int (cR a8) 0 j5 j6
 obtain rfl : b0 = q5 := (by injection r8)
 have G1 : (0 < (rd_L4 a2 (g2)).length) = True := eq_true (nl0 j6)
 (try rw [show ((0 : Int)).toNat = 0 from rfl] at e3)
 (try rw [Addr.add_zero'] at e3)
 replace j5 := eq_true j5
 replace j6 := eq_true j6
 have r9 : 0 ≤ (0 : Int) := (by decide)
 have s0 : 0 < ((rd_L4 a2 (g2)).length : Int) := of_decide_eq_true (by first | exact dj2 | exact d31 | exact asm)
 obtain ⟨G2, R5, i3⟩ := Kd.at_int (cR a8) 0 r9 s0
 obtain rfl : b0 = G2 := (by injection R5)
 have b32 : (0 < (rd_L4 a2 (g2)).length) = True := eq_true (nl0 s0)
 (try rw [show ((0 : Int)).toNat = 0 from rfl] at i3)
 (try rw [Addr.add_zero'] at i3)
 replace r9 := eq_true r9
 replace s0 := eq_true s0
 have s1 : 0 ≤ (0 : Int) := (by decide)
 have s2 : 0 < ((rd_L4 a2 (g2)).length : Int) := of_decide_eq_true (by first | exact dj2 | exact d31 | exact asm)
 obtain ⟨G3, R6, i4⟩ := Kd.at_int (cR a8) 0 s1 s2
 obtain rfl : b0 = G3 := (by injection R6)
 have b33 : (0 < (rd_L4 a2 (g2)).length) = True := eq_true (nl0 s2)
 (try rw [show ((0 : Int)).toNat = 0 from rfl] at i4)
 (try rw [Addr.add_zero'] at i4)
 replace s1 := eq_true s1
 replace s2 := eq_true s2
 have s3 : 0 ≤ (0 : Int) := (by decide)
 have s4 : 0 < ((rd_L4 a2 (b3)).length : Int) := of_decide_eq_true (by first | exact dj4 | exact asm)
 obtain ⟨v0, R7, i5⟩ := Kd.at_int (cR c5) 0 s3 s4
 cases R7
 have b34 : (0 < (rd_L4 a2 (b3)).length) = True := eq_true (nl0 s4)
 (try rw [show ((0 : Int)).toNat = 0 from rfl] at i5)
 (try rw [Addr.add_zero'] at i5)
 replace s3 := eq_true s3
 replace s4 := eq_true s4
 have s5 : 0 ≤ (1 : Int) := (by decide)
 have s6 : 1 < ((rd_L4 a2 (g2)).length : Int) := of_decide_eq_true (by first | exact dj8 | exact d35 | exact asm)
 obtain ⟨G4, R8, i6⟩ := Kd.at_int (cR a8) 1 s5 s6
 obtain rfl : b0 = G4 := (by injection R8)
 (try simp only [show (1 : Int).toNat = 1 from rfl, Nat.reduceMul, Nat.reduceEqDiff, Go.Addr.add, ↓reduceIte] at i6)
 have b35 : (1 < (rd_L4 a2 (g2)).length) = True := eq_true (nl1 s6)
 (try rw [show ((1 : Int)).toNat = 1 from rfl] at i6)
 replace s5 := eq_true s5
 replace s6 := eq_true s6
 have F0 : 0 ≤ (1 : Int) := (by decide)
 have F1 : 1 < ((rd_L4 a2 (g2)).length : Int) := of_decide_eq_true (by first | exact dj8 | exact d35 | exact asm)
 obtain ⟨a24, ag9, o5⟩ := Kd.at_int (cR a8) 1 F0 F1
 obtain rfl : b0 = a24 := (by injection ag9)
 (try simp only [show (1 : Int).toNat = 1 from rfl, Nat.reduceMul, Nat.reduceEqDiff, Go.Addr.add, ↓reduceIte] at o5)
 have bj5 : (1 < (rd_L4 a2 (g2)).length) = True := eq_true (nl1 F1)
 (try rw [show ((1 : Int)).toNat = 1 from rfl] at o5)
 replace F0 := eq_true F0
 replace F1 := eq_true F1
 as_aux_lemma => (
 refine st_ 56 laws_FnBeamsGo.pl3 (S := fun w' => w'.cell? ⟨e8, 0, none⟩ = some (.int .i64 b9) ∧ w'.cell? ⟨e8, 1, none⟩ = some (.int .i64 b6) ∧ w'.cell? b0 = some (.int .i64 (rd (rd_L4 a2 (g2)) 0)) ∧ w'.cell? b0 = some (.int .i64 (rd (rd_L4 a2 (g2)) 0)) ∧ w'.cell? b0 = some (.int .i64 (rd (rd_L4 a2 (g2)) 0)) ∧ w'.cell? b0 = some (.int .i64 (rd (rd_L4 a2 (g2)) 0)) ∧ w'.cell? v0 = some (.int .i64 (rd (rd_L4 a2 (b3)) 0)) ∧ w'.cell? ⟨b0.block, b0.off + 1, none⟩ = some (.int .i64 (rd (rd_L4 a2 (g2)) 1)) ∧ w'.cell? ⟨b0.block, b0.off + 1, none⟩ = some (.int .i64 (rd (rd_L4 a2 (g2)) 1))) (ds := []) laws_FnBeamsGo.tab45 laws_FnBeamsGo.bits45 ⟨cb a3 0, cb a3 1, c3, e3, i3, i4, i5, i6, o5⟩ (fun hHeld HT_ HW_ => ?_)
 generalize wc.drew = gg5 at a9 d2 a3 a5 a6 a7 a8 b1 c5 HB c3 e3 i3 i4 i5 i6 o5 hHeld ⊢
 iterate 56 (first | refine rA HT_ ?_ | refine rB HT_ ?_ | refine rT HT_ HW_ hHeld ?_)
 refine pD HT_ ?_
 repeat (go_not_at_region 14; go_not_at_region 20; go_not_at_region 29; go_not_at_region 30; go_not_at_region 45; go_not_at_region 83; go_not_at_region 86; first | go_skip | go_guarded | go_step | go_upon)
 (try rw [dSet])
 go_roundg q8
 case measure => exact laws_FnBeamsGo.jx
 case rel => exact ⟨(j4), (wrap64 (a4 + 1)), sR, sR, H', ⟨laws_FnBeamsGo.jx⟩, ⟨oS a9⟩, (bA a3), (bA a5), (bA a6), (bA a7), ⟨bB⟩⟩
 )
 )
 rw [if_neg J0] at H
 have bg1 : decide (0 < (rd (rd_L4 a2 (g2)) 1)) = false := decide_eq_false J0
 clear J0
 have H' := Aside0.mk H
 clear H
 have g0 : 0 ≤ ((b3) : Int) := of_decide_eq_true asm
 have g1 : (b3) < (a2.length : Int) := of_decide_eq_true (by first | exact dj1 | exact asm)
 obtain ⟨k0, q9, r0, n2, h5, e6, e7⟩ := at_L4 (Kd.S_reads' a9.out).2.2 (b3) g0 g1
 obtain rfl : j9 = k0 := (by injection n2)
 obtain ⟨uz7, i1, i2, g5⟩ := Kd.S_get a9.out [] (b3) g0 (by first | exact g1 | exact of_decide_eq_true asm | (have e_ := (Kd.S_reads' a9.out).1; omega))
 obtain ⟨p2, rfl, d1⟩ := i2
 have b7 := g5 0 _ rfl
 rw [Nat.add_zero, show ((Kd.slice 3 (Kd.int .i64))).sz = 1 from rfl, Nat.mul_one] at b7
 replace b7 := Option.some.inj (b7.symm.trans h5)
 rw [b7] at d1
 have d2 := Aside0.mk (show Kd.R (Kd.int .i64) 3 _ _ _ _ (rd_L4 a2 (b3)) from d1)
 clear b7 d1 g5 i1
 have c5 := Aside0.mk e7
 have p3 := Aside0.mk e6
 clear e7 e6
 replace g0 := eq_true g0
 replace g1 := eq_true g1
 repeat (go_not_at_region 14; go_not_at_region 20; go_not_at_region 29; go_not_at_region 30; go_not_at_region 45; go_not_at_region 83; go_not_at_region 86; first | go_skip | go_guarded | go_step | go_upon)
 replace a9 := Aside0.mk (Kd.S_drew a9.out)
 replace d2 := Aside0.mk (Kd.R_drew d2.out)
 replace a3 := bD1 a3
 replace a5 := bD1 a5
 replace a6 := bD1 a6
 replace a7 := bD1 a7
 replace a8 := Aside0.mk (Kd.C_drew a8.out)
 replace b1 := Aside0.mk (Kd.C_drew b1.out)
 replace c5 := Aside0.mk (Kd.C_drew c5.out)
 replace HB := Aside0.mk (below_drew1 HB.out)
 have h2 : 0 ≤ (0 : Int) := (by decide)
 have h3 : 0 < ((rd_L4 a2 (g2)).length : Int) := of_decide_eq_true (by first | exact dj2 | exact d31 | exact asm)
 obtain ⟨b0, n3, c3⟩ := Kd.at_int (cR a8) 0 h2 h3
 cases n3
 have uz9 : (0 < (rd_L4 a2 (g2)).length) = True := eq_true (nl0 h3)
 (try rw [show ((0 : Int)).toNat = 0 from rfl] at c3)
 (try rw [Addr.add_zero'] at c3)
 replace h2 := eq_true h2
 replace h3 := eq_true h3
 have j5 : 0 ≤ (0 : Int) := (by decide)
 have j6 : 0 < ((rd_L4 a2 (g2)).length : Int) := of_decide_eq_true (by first | exact dj2 | exact d31 | exact asm)
 obtain ⟨q5, r8, e3⟩ := Kd.at_int (cR a8) 0 j5 j6
 obtain rfl : b0 = q5 := (by injection r8)
 have G1 : (0 < (rd_L4 a2 (g2)).length) = True := eq_true (nl0 j6)
 (try rw [show ((0 : Int)).toNat = 0 from rfl] at e3)
 (try rw [Addr.add_zero'] at e3)
 replace j5 := eq_true j5
 replace j6 := eq_true j6
 have r9 : 0 ≤ (0 : Int) := (by decide)
 have s0 : 0 < ((rd_L4 a2 (g2)).length : Int) := of_decide_eq_true (by first | exact dj2 | exact d31 | exact asm)
 obtain ⟨G2, R5, i3⟩ := Kd.at_int (cR a8) 0 r9 s0
 obtain rfl : b0 = G2 := (by injection R5)
 have b32 : (0 < (rd_L4 a2 (g2)).length) = True := eq_true (nl0 s0)
 (try rw [show ((0 : Int)).toNat = 0 from rfl] at i3)
 (try rw [Addr.add_zero'] at i3)
 replace r9 := eq_true r9
 replace s0 := eq_true s0
 have s1 : 0 ≤ (0 : Int) := (by decide)
 have s2 : 0 < ((rd_L4 a2 (g2)).length : Int) := of_decide_eq_true (by first | exact dj2 | exact d31 | exact asm)
 obtain ⟨G3, R6, i4⟩ := Kd.at_int (cR a8) 0 s1 s2
 obtain rfl : b0 = G3 := (by injection R6)
 have b33 : (0 < (rd_L4 a2 (g2)).length) = True := eq_true (nl0 s2)
 (try rw [show ((0 : Int)).toNat = 0 from rfl] at i4)
 (try rw [Addr.add_zero'] at i4)
 replace s1 := eq_true s1
 replace s2 := eq_true s2
 have s3 : 0 ≤ (0 : Int) := (by decide)
 have s4 : 0 < ((rd_L4 a2 (b3)).length : Int) := of_decide_eq_true (by first | exact dj4 | exact asm)
 obtain ⟨v0, R7, i5⟩ := Kd.at_int (cR c5) 0 s3 s4
 cases R7
 have b34 : (0 < (rd_L4 a2 (b3)).length) = True := eq_true (nl0 s4)
 (try rw [show ((0 : Int)).toNat = 0 from rfl] at i5)
 (try rw [Addr.add_zero'] at i5)
 replace s3 := eq_true s3
 replace s4 := eq_true s4
 have s5 : 0 ≤ (1 : Int) := (by decide)
 have s6 : 1 < ((rd_L4 a2 (g2)).length : Int) := of_decide_eq_true (by first | exact dj8 | exact d35 | exact asm)
 obtain ⟨G4, R8, i6⟩ := Kd.at_int (cR a8) 1 s5 s6
 obtain rfl : b0 = G4 := (by injection R8)
 (try simp only [show (1 : Int).toNat = 1 from rfl, Nat.reduceMul, Nat.reduceEqDiff, Go.Addr.add, ↓reduceIte] at i6)
 have b35 : (1 < (rd_L4 a2 (g2)).length) = True := eq_true (nl1 s6)
 (try rw [show ((1 : Int)).toNat = 1 from rfl] at i6)
 replace s5 := eq_true s5
 replace s6 := eq_true s6
 as_aux_lemma => (
 refine st_ 56 laws_FnBeamsGo.pl4 (S := fun w' => w'.cell? ⟨e8, 0, none⟩ = some (.int .i64 b9) ∧ w'.cell? ⟨e8, 1, none⟩ = some (.int .i64 b6) ∧ w'.cell? b0 = some (.int .i64 (rd (rd_L4 a2 (g2)) 0)) ∧ w'.cell? b0 = some (.int .i64 (rd (rd_L4 a2 (g2)) 0)) ∧ w'.cell? b0 = some (.int .i64 (rd (rd_L4 a2 (g2)) 0)) ∧ w'.cell? b0 = some (.int .i64 (rd (rd_L4 a2 (g2)) 0)) ∧ w'.cell? v0 = some (.int .i64 (rd (rd_L4 a2 (b3)) 0)) ∧ w'.cell? ⟨b0.block, b0.off + 1, none⟩ = some (.int .i64 (rd (rd_L4 a2 (g2)) 1))) (ds := []) laws_FnBeamsGo.tab45 laws_FnBeamsGo.bits45 ⟨cb a3 0, cb a3 1, c3, e3, i3, i4, i5, i6⟩ (fun hHeld HT_ HW_ => ?_)
 generalize wc.drew = gg6 at a9 d2 a3 a5 a6 a7 a8 b1 c5 HB c3 e3 i3 i4 i5 i6 hHeld ⊢
 iterate 56 (first | refine rA HT_ ?_ | refine rB HT_ ?_ | refine rT HT_ HW_ hHeld ?_)
 refine pD HT_ ?_
 repeat (go_not_at_region 14; go_not_at_region 20; go_not_at_region 29; go_not_at_region 30; go_not_at_region 45; go_not_at_region 83; go_not_at_region 86; first | go_skip | go_guarded | go_step | go_upon)
 (try rw [dSet])
 go_roundg q8
 case measure => exact laws_FnBeamsGo.jx
 case rel => exact ⟨(j4), (wrap64 (a4 + 1)), sR, sR, H', ⟨laws_FnBeamsGo.jx⟩, ⟨oS a9⟩, (bA a3), (bA a5), (bA a6), (bA a7), ⟨bB⟩⟩
 )
 )
 rw [if_neg a21] at H
 exact absurd H (by simp)
 )
 rw [if_neg a20] at H
 exact fy HT_l H
 )
 rw [if_neg a19] at H
 exact absurd H (by simp)
 )
 rw [if_neg I9] at H
 have bg0 : decide ((rd (rd_L4 a2 (g2)) 0) < b9) = false := decide_eq_false I9
 clear I9
 by_cases a25 : 1 < ((rd_L4 a2 (g2)).length : Int)
 ·(
 rw [if_pos a25] at H
 have dk4 : decide (1 < ((rd_L4 a2 (g2)).length : Int)) = true := decide_eq_true a25
 have dk5 : decide (1 < (rd_L4 a2 (g2)).length) = true := decide_eq_true (nl1 a25)
 clear a25
 by_cases J2 : (rd (rd_L4 a2 (g2)) 1) > 0
 ·(
 rw [if_pos J2] at H
 have bg3 : decide (0 < (rd (rd_L4 a2 (g2)) 1)) = true := decide_eq_true J2
 clear J2
 by_cases J3 : (rd (rd_L4 a2 (g2)) 1) < b6
 ·(
 rw [if_pos J3] at H
 have bg4 : decide ((rd (rd_L4 a2 (g2)) 1) < b6) = true := decide_eq_true J3
 clear J3
 by_cases a26 : 1 < ((rd_L4 a2 (b3)).length : Int)
 ·(
 rw [if_pos a26] at H
 have dk6 : decide (1 < ((rd_L4 a2 (b3)).length : Int)) = true := decide_eq_true a26
 have dk7 : decide (1 < (rd_L4 a2 (b3)).length) = true := decide_eq_true (nl1 a26)
 clear a26
 by_cases a27 : (wrap64 ((rd (rd_L4 a2 a4) 1) - (rd (rd_L4 a2 (g2)) 1))) = (wrap64 ((rd (rd_L4 a2 (g2)) 1) - (rd (rd_L4 a2 (b3)) 1)))
 ·(
 rw [if_pos a27] at H
 obtain ⟨dk8, dk9⟩ := yE a27
 clear a27
 have H' := Aside0.mk H
 clear H
 have g0 : 0 ≤ ((b3) : Int) := of_decide_eq_true asm
 have g1 : (b3) < (a2.length : Int) := of_decide_eq_true (by first | exact dj1 | exact asm)
 obtain ⟨k0, q9, r0, n2, h5, e6, e7⟩ := at_L4 (Kd.S_reads' a9.out).2.2 (b3) g0 g1
 obtain rfl : j9 = k0 := (by injection n2)
 obtain ⟨uz7, i1, i2, g5⟩ := Kd.S_get a9.out [] (b3) g0 (by first | exact g1 | exact of_decide_eq_true asm | (have e_ := (Kd.S_reads' a9.out).1; omega))
 obtain ⟨p2, rfl, d1⟩ := i2
 have b7 := g5 0 _ rfl
 rw [Nat.add_zero, show ((Kd.slice 3 (Kd.int .i64))).sz = 1 from rfl, Nat.mul_one] at b7
 replace b7 := Option.some.inj (b7.symm.trans h5)
 rw [b7] at d1
 have d2 := Aside0.mk (show Kd.R (Kd.int .i64) 3 _ _ _ _ (rd_L4 a2 (b3)) from d1)
 clear b7 d1 g5 i1
 have c5 := Aside0.mk e7
 have p3 := Aside0.mk e6
 clear e7 e6
 replace g0 := eq_true g0
 replace g1 := eq_true g1
 repeat (go_not_at_region 14; go_not_at_region 20; go_not_at_region 29; go_not_at_region 30; go_not_at_region 45; go_not_at_region 83; go_not_at_region 86; first | go_skip | go_guarded | go_step | go_upon)
 replace a9 := Aside0.mk (Kd.S_drew a9.out)
 replace d2 := Aside0.mk (Kd.R_drew d2.out)
 replace a3 := bD1 a3
 replace a5 := bD1 a5
 replace a6 := bD1 a6
 replace a7 := bD1 a7
 replace a8 := Aside0.mk (Kd.C_drew a8.out)
 replace b1 := Aside0.mk (Kd.C_drew b1.out)
 replace c5 := Aside0.mk (Kd.C_drew c5.out)
 replace HB := Aside0.mk (below_drew1 HB.out)
 have h2 : 0 ≤ (0 : Int) := (by decide)
 have h3 : 0 < ((rd_L4 a2 (g2)).length : Int) := of_decide_eq_true (by first | exact dj2 | exact d31 | exact asm)
 obtain ⟨b0, n3, c3⟩ := Kd.at_int (cR a8) 0 h2 h3
 cases n3
 have uz9 : (0 < (rd_L4 a2 (g2)).length) = True := eq_true (nl0 h3)
 (try rw [show ((0 : Int)).toNat = 0 from rfl] at c3)
 (try rw [Addr.add_zero'] at c3)
 replace h2 := eq_true h2
 replace h3 := eq_true h3
 have j5 : 0 ≤ (0 : Int) := (by decide)
 have j6 : 0 < ((rd_L4 a2 (g2)).length : Int) := of_decide_eq_true (by first | exact dj2 | exact d31 | exact asm)
 obtain ⟨q5, r8, e3⟩ := Kd.at_int (cR a8) 0 j5 j6
 obtain rfl : b0 = q5 := (by injection r8)
 have G1 : (0 < (rd_L4 a2 (g2)).length) = True := eq_true (nl0 j6)
 (try rw [show ((0 : Int)).toNat = 0 from rfl] at e3)
 (try rw [Addr.add_zero'] at e3)
 replace j5 := eq_true j5
 replace j6 := eq_true j6
 have s7 : 0 ≤ (1 : Int) := (by decide)
 have s8 : 1 < ((rd_L4 a2 (g2)).length : Int) := of_decide_eq_true (by first | exact dk4 | exact dj8 | exact d35 | exact asm)
 obtain ⟨G5, R9, i7⟩ := Kd.at_int (cR a8) 1 s7 s8
 obtain rfl : b0 = G5 := (by injection R9)
 (try simp only [show (1 : Int).toNat = 1 from rfl, Nat.reduceMul, Nat.reduceEqDiff, Go.Addr.add, ↓reduceIte] at i7)
 have b36 : (1 < (rd_L4 a2 (g2)).length) = True := eq_true (nl1 s8)
 (try rw [show ((1 : Int)).toNat = 1 from rfl] at i7)
 replace s7 := eq_true s7
 replace s8 := eq_true s8
 have F2 : 0 ≤ (1 : Int) := (by decide)
 have F3 : 1 < ((rd_L4 a2 (g2)).length : Int) := of_decide_eq_true (by first | exact dk4 | exact dj8 | exact d35 | exact asm)
 obtain ⟨a28, ah6, o6⟩ := Kd.at_int (cR a8) 1 F2 F3
 obtain rfl : b0 = a28 := (by injection ah6)
 (try simp only [show (1 : Int).toNat = 1 from rfl, Nat.reduceMul, Nat.reduceEqDiff, Go.Addr.add, ↓reduceIte] at o6)
 have bj9 : (1 < (rd_L4 a2 (g2)).length) = True := eq_true (nl1 F3)
 (try rw [show ((1 : Int)).toNat = 1 from rfl] at o6)
 replace F2 := eq_true F2
 replace F3 := eq_true F3
 have ah7 : 0 ≤ (1 : Int) := (by decide)
 have ah8 : 1 < ((rd_L4 a2 (g2)).length : Int) := of_decide_eq_true (by first | exact dk4 | exact dj8 | exact d35 | exact asm)
 obtain ⟨bk0, bw7, E2⟩ := Kd.at_int (cR a8) 1 ah7 ah8
 obtain rfl : b0 = bk0 := (by injection bw7)
 (try simp only [show (1 : Int).toNat = 1 from rfl, Nat.reduceMul, Nat.reduceEqDiff, Go.Addr.add, ↓reduceIte] at E2)
 have gc3 : (1 < (rd_L4 a2 (g2)).length) = True := eq_true (nl1 ah8)
 (try rw [show ((1 : Int)).toNat = 1 from rfl] at E2)
 replace ah7 := eq_true ah7
 replace ah8 := eq_true ah8
 have ah9 : 0 ≤ (1 : Int) := (by decide)
 have ai0 : 1 < ((rd_L4 a2 (g2)).length : Int) := of_decide_eq_true (by first | exact dk4 | exact dj8 | exact d35 | exact asm)
 obtain ⟨bk1, bw8, E3⟩ := Kd.at_int (cR a8) 1 ah9 ai0
 obtain rfl : b0 = bk1 := (by injection bw8)
 (try simp only [show (1 : Int).toNat = 1 from rfl, Nat.reduceMul, Nat.reduceEqDiff, Go.Addr.add, ↓reduceIte] at E3)
 have gc4 : (1 < (rd_L4 a2 (g2)).length) = True := eq_true (nl1 ai0)
 (try rw [show ((1 : Int)).toNat = 1 from rfl] at E3)
 replace ah9 := eq_true ah9
 replace ai0 := eq_true ai0
 have ai1 : 0 ≤ (1 : Int) := (by decide)
 have ai2 : 1 < ((rd_L4 a2 (b3)).length : Int) := of_decide_eq_true (by first | exact dk6 | exact dk0 | exact asm)
 obtain ⟨b37, bw9, E4⟩ := Kd.at_int (cR c5) 1 ai1 ai2
 cases bw9
 (try simp only [show (1 : Int).toNat = 1 from rfl, Nat.reduceMul, Nat.reduceEqDiff, Go.Addr.add, ↓reduceIte] at E4)
 have gc5 : (1 < (rd_L4 a2 (b3)).length) = True := eq_true (nl1 ai2)
 (try rw [show ((1 : Int)).toNat = 1 from rfl] at E4)
 replace ai1 := eq_true ai1
 replace ai2 := eq_true ai2
 as_aux_lemma => (
 refine st_ 56 laws_FnBeamsGo.pl5 (S := fun w' => w'.cell? ⟨e8, 0, none⟩ = some (.int .i64 b9) ∧ w'.cell? ⟨e8, 1, none⟩ = some (.int .i64 b6) ∧ w'.cell? b0 = some (.int .i64 (rd (rd_L4 a2 (g2)) 0)) ∧ w'.cell? b0 = some (.int .i64 (rd (rd_L4 a2 (g2)) 0)) ∧ w'.cell? ⟨b0.block, b0.off + 1, none⟩ = some (.int .i64 (rd (rd_L4 a2 (g2)) 1)) ∧ w'.cell? ⟨b0.block, b0.off + 1, none⟩ = some (.int .i64 (rd (rd_L4 a2 (g2)) 1)) ∧ w'.cell? ⟨b0.block, b0.off + 1, none⟩ = some (.int .i64 (rd (rd_L4 a2 (g2)) 1)) ∧ w'.cell? ⟨b0.block, b0.off + 1, none⟩ = some (.int .i64 (rd (rd_L4 a2 (g2)) 1)) ∧ w'.cell? ⟨b37.block, b37.off + 1, none⟩ = some (.int .i64 (rd (rd_L4 a2 (b3)) 1))) (ds := []) laws_FnBeamsGo.tab45 laws_FnBeamsGo.bits45 ⟨cb a3 0, cb a3 1, c3, e3, i7, o6, E2, E3, E4⟩ (fun hHeld HT_ HW_ => ?_)
 generalize wc.drew = gg7 at a9 d2 a3 a5 a6 a7 a8 b1 c5 HB c3 e3 i7 o6 E2 E3 E4 hHeld ⊢
 iterate 56 (first | refine rA HT_ ?_ | refine rB HT_ ?_ | refine rT HT_ HW_ hHeld ?_)
 refine pD HT_ ?_
 repeat (go_not_at_region 14; go_not_at_region 20; go_not_at_region 29; go_not_at_region 30; go_not_at_region 45; go_not_at_region 83; go_not_at_region 86; first | go_skip | go_guarded | go_step | go_upon)
 (try rw [dSet])
 go_roundg q8
 case measure => exact laws_FnBeamsGo.jx
 case rel => exact ⟨(j4), (wrap64 (a4 + 1)), sR, sR, H', ⟨laws_FnBeamsGo.jx⟩, ⟨oS a9⟩, (bA a3), (bA a5), (bA a6), (bA a7), ⟨bB⟩⟩
 )
 )
 rw [if_neg a27] at H
 exact fy HT_l H
 )
 rw [if_neg a26] at H
 exact absurd H (by simp)
 )
 rw [if_neg J3] at H
 have bg4 : decide ((rd (rd_L4 a2 (g2)) 1) < b6) = false := decide_eq_false J3
 clear J3
 have H' := Aside0.mk H
 clear H
 have g0 : 0 ≤ ((b3) : Int) := of_decide_eq_true asm
 have g1 : (b3) < (a2.length : Int) := of_decide_eq_true (by first | exact dj1 | exact asm)
 obtain ⟨k0, q9, r0, n2, h5, e6, e7⟩ := at_L4 (Kd.S_reads' a9.out).2.2 (b3) g0 g1
 obtain rfl : j9 = k0 := (by injection n2)
 obtain ⟨uz7, i1, i2, g5⟩ := Kd.S_get a9.out [] (b3) g0 (by first | exact g1 | exact of_decide_eq_true asm | (have e_ := (Kd.S_reads' a9.out).1; omega))
 obtain ⟨p2, rfl, d1⟩ := i2
 have b7 := g5 0 _ rfl
 rw [Nat.add_zero, show ((Kd.slice 3 (Kd.int .i64))).sz = 1 from rfl, Nat.mul_one] at b7
 replace b7 := Option.some.inj (b7.symm.trans h5)
 rw [b7] at d1
 have d2 := Aside0.mk (show Kd.R (Kd.int .i64) 3 _ _ _ _ (rd_L4 a2 (b3)) from d1)
 clear b7 d1 g5 i1
 have c5 := Aside0.mk e7
 have p3 := Aside0.mk e6
 clear e7 e6
 replace g0 := eq_true g0
 replace g1 := eq_true g1
 repeat (go_not_at_region 14; go_not_at_region 20; go_not_at_region 29; go_not_at_region 30; go_not_at_region 45; go_not_at_region 83; go_not_at_region 86; first | go_skip | go_guarded | go_step | go_upon)
 replace a9 := Aside0.mk (Kd.S_drew a9.out)
 replace d2 := Aside0.mk (Kd.R_drew d2.out)
 replace a3 := bD1 a3
 replace a5 := bD1 a5
 replace a6 := bD1 a6
 replace a7 := bD1 a7
 replace a8 := Aside0.mk (Kd.C_drew a8.out)
 replace b1 := Aside0.mk (Kd.C_drew b1.out)
 replace c5 := Aside0.mk (Kd.C_drew c5.out)
 replace HB := Aside0.mk (below_drew1 HB.out)
 have h2 : 0 ≤ (0 : Int) := (by decide)
 have h3 : 0 < ((rd_L4 a2 (g2)).length : Int) := of_decide_eq_true (by first | exact dj2 | exact d31 | exact asm)
 obtain ⟨b0, n3, c3⟩ := Kd.at_int (cR a8) 0 h2 h3
 cases n3
 have uz9 : (0 < (rd_L4 a2 (g2)).length) = True := eq_true (nl0 h3)
 (try rw [show ((0 : Int)).toNat = 0 from rfl] at c3)
 (try rw [Addr.add_zero'] at c3)
 replace h2 := eq_true h2
 replace h3 := eq_true h3
 have j5 : 0 ≤ (0 : Int) := (by decide)
 have j6 : 0 < ((rd_L4 a2 (g2)).length : Int) := of_decide_eq_true (by first | exact dj2 | exact d31 | exact asm)
 obtain ⟨q5, r8, e3⟩ := Kd.at_int (cR a8) 0 j5 j6
 obtain rfl : b0 = q5 := (by injection r8)
 have G1 : (0 < (rd_L4 a2 (g2)).length) = True := eq_true (nl0 j6)
 (try rw [show ((0 : Int)).toNat = 0 from rfl] at e3)
 (try rw [Addr.add_zero'] at e3)
 replace j5 := eq_true j5
 replace j6 := eq_true j6
 have s7 : 0 ≤ (1 : Int) := (by decide)
 have s8 : 1 < ((rd_L4 a2 (g2)).length : Int) := of_decide_eq_true (by first | exact dk4 | exact dj8 | exact d35 | exact asm)
 obtain ⟨G5, R9, i7⟩ := Kd.at_int (cR a8) 1 s7 s8
 obtain rfl : b0 = G5 := (by injection R9)
 (try simp only [show (1 : Int).toNat = 1 from rfl, Nat.reduceMul, Nat.reduceEqDiff, Go.Addr.add, ↓reduceIte] at i7)
 have b36 : (1 < (rd_L4 a2 (g2)).length) = True := eq_true (nl1 s8)
 (try rw [show ((1 : Int)).toNat = 1 from rfl] at i7)
 replace s7 := eq_true s7
 replace s8 := eq_true s8
 have F2 : 0 ≤ (1 : Int) := (by decide)
 have F3 : 1 < ((rd_L4 a2 (g2)).length : Int) := of_decide_eq_true (by first | exact dk4 | exact dj8 | exact d35 | exact asm)
 obtain ⟨a28, ah6, o6⟩ := Kd.at_int (cR a8) 1 F2 F3
 obtain rfl : b0 = a28 := (by injection ah6)
 (try simp only [show (1 : Int).toNat = 1 from rfl, Nat.reduceMul, Nat.reduceEqDiff, Go.Addr.add, ↓reduceIte] at o6)
 have bj9 : (1 < (rd_L4 a2 (g2)).length) = True := eq_true (nl1 F3)
 (try rw [show ((1 : Int)).toNat = 1 from rfl] at o6)
 replace F2 := eq_true F2
 replace F3 := eq_true F3
 as_aux_lemma => (
 refine st_ 56 laws_FnBeamsGo.pl6 (S := fun w' => w'.cell? ⟨e8, 0, none⟩ = some (.int .i64 b9) ∧ w'.cell? ⟨e8, 1, none⟩ = some (.int .i64 b6) ∧ w'.cell? b0 = some (.int .i64 (rd (rd_L4 a2 (g2)) 0)) ∧ w'.cell? b0 = some (.int .i64 (rd (rd_L4 a2 (g2)) 0)) ∧ w'.cell? ⟨b0.block, b0.off + 1, none⟩ = some (.int .i64 (rd (rd_L4 a2 (g2)) 1)) ∧ w'.cell? ⟨b0.block, b0.off + 1, none⟩ = some (.int .i64 (rd (rd_L4 a2 (g2)) 1))) (ds := []) laws_FnBeamsGo.tab45 laws_FnBeamsGo.bits45 ⟨cb a3 0, cb a3 1, c3, e3, i7, o6⟩ (fun hHeld HT_ HW_ => ?_)
 generalize wc.drew = gg8 at a9 d2 a3 a5 a6 a7 a8 b1 c5 HB c3 e3 i7 o6 hHeld ⊢
 iterate 56 (first | refine rA HT_ ?_ | refine rB HT_ ?_ | refine rT HT_ HW_ hHeld ?_)
 refine pD HT_ ?_
 repeat (go_not_at_region 14; go_not_at_region 20; go_not_at_region 29; go_not_at_region 30; go_not_at_region 45; go_not_at_region 83; go_not_at_region 86; first | go_skip | go_guarded | go_step | go_upon)
 (try rw [dSet])
 go_roundg q8
 case measure => exact laws_FnBeamsGo.jx
 case rel => exact ⟨(j4), (wrap64 (a4 + 1)), sR, sR, H', ⟨laws_FnBeamsGo.jx⟩, ⟨oS a9⟩, (bA a3), (bA a5), (bA a6), (bA a7), ⟨bB⟩⟩
 )
 )
 rw [if_neg J2] at H
 have bg3 : decide (0 < (rd (rd_L4 a2 (g2)) 1)) = false := decide_eq_false J2
 clear J2
 have H' := Aside0.mk H
 clear H
 have g0 : 0 ≤ ((b3) : Int) := of_decide_eq_true asm
 have g1 : (b3) < (a2.length : Int) := of_decide_eq_true (by first | exact dj1 | exact asm)
 obtain ⟨k0, q9, r0, n2, h5, e6, e7⟩ := at_L4 (Kd.S_reads' a9.out).2.2 (b3) g0 g1
 obtain rfl : j9 = k0 := (by injection n2)
 obtain ⟨uz7, i1, i2, g5⟩ := Kd.S_get a9.out [] (b3) g0 (by first | exact g1 | exact of_decide_eq_true asm | (have e_ := (Kd.S_reads' a9.out).1; omega))
 obtain ⟨p2, rfl, d1⟩ := i2
 have b7 := g5 0 _ rfl
 rw [Nat.add_zero, show ((Kd.slice 3 (Kd.int .i64))).sz = 1 from rfl, Nat.mul_one] at b7
 replace b7 := Option.some.inj (b7.symm.trans h5)
 rw [b7] at d1
 have d2 := Aside0.mk (show Kd.R (Kd.int .i64) 3 _ _ _ _ (rd_L4 a2 (b3)) from d1)
 clear b7 d1 g5 i1
 have c5 := Aside0.mk e7
 have p3 := Aside0.mk e6
 clear e7 e6
 replace g0 := eq_true g0
 replace g1 := eq_true g1
 repeat (go_not_at_region 14; go_not_at_region 20; go_not_at_region 29; go_not_at_region 30; go_not_at_region 45; go_not_at_region 83; go_not_at_region 86; first | go_skip | go_guarded | go_step | go_upon)
 replace a9 := Aside0.mk (Kd.S_drew a9.out)
 replace d2 := Aside0.mk (Kd.R_drew d2.out)
 replace a3 := bD1 a3
 replace a5 := bD1 a5
 replace a6 := bD1 a6
 replace a7 := bD1 a7
 replace a8 := Aside0.mk (Kd.C_drew a8.out)
 replace b1 := Aside0.mk (Kd.C_drew b1.out)
 replace c5 := Aside0.mk (Kd.C_drew c5.out)
 replace HB := Aside0.mk (below_drew1 HB.out)
 have h2 : 0 ≤ (0 : Int) := (by decide)
 have h3 : 0 < ((rd_L4 a2 (g2)).length : Int) := of_decide_eq_true (by first | exact dj2 | exact d31 | exact asm)
 obtain ⟨b0, n3, c3⟩ := Kd.at_int (cR a8) 0 h2 h3
 cases n3
 have uz9 : (0 < (rd_L4 a2 (g2)).length) = True := eq_true (nl0 h3)
 (try rw [show ((0 : Int)).toNat = 0 from rfl] at c3)
 (try rw [Addr.add_zero'] at c3)
 replace h2 := eq_true h2
 replace h3 := eq_true h3
 have j5 : 0 ≤ (0 : Int) := (by decide)
 have j6 : 0 < ((rd_L4 a2 (g2)).length : Int) := of_decide_eq_true (by first | exact dj2 | exact d31 | exact asm)
 obtain ⟨q5, r8, e3⟩ := Kd.at_int (cR a8) 0 j5 j6
 obtain rfl : b0 = q5 := (by injection r8)
 have G1 : (0 < (rd_L4 a2 (g2)).length) = True := eq_true (nl0 j6)
 (try rw [show ((0 : Int)).toNat = 0 from rfl] at e3)
 (try rw [Addr.add_zero'] at e3)
 replace j5 := eq_true j5
 replace j6 := eq_true j6
 have s7 : 0 ≤ (1 : Int) := (by decide)
 have s8 : 1 < ((rd_L4 a2 (g2)).length : Int) := of_decide_eq_true (by first | exact dk4 | exact dj8 | exact d35 | exact asm)
 obtain ⟨G5, R9, i7⟩ := Kd.at_int (cR a8) 1 s7 s8
 obtain rfl : b0 = G5 := (by injection R9)
 (try simp only [show (1 : Int).toNat = 1 from rfl, Nat.reduceMul, Nat.reduceEqDiff, Go.Addr.add, ↓reduceIte] at i7)
 have b36 : (1 < (rd_L4 a2 (g2)).length) = True := eq_true (nl1 s8)
 (try rw [show ((1 : Int)).toNat = 1 from rfl] at i7)
 replace s7 := eq_true s7
 replace s8 := eq_true s8
 as_aux_lemma => (
 refine st_ 56 laws_FnBeamsGo.pl7 (S := fun w' => w'.cell? ⟨e8, 0, none⟩ = some (.int .i64 b9) ∧ w'.cell? ⟨e8, 1, none⟩ = some (.int .i64 b6) ∧ w'.cell? b0 = some (.int .i64 (rd (rd_L4 a2 (g2)) 0)) ∧ w'.cell? b0 = some (.int .i64 (rd (rd_L4 a2 (g2)) 0)) ∧ w'.cell? ⟨b0.block, b0.off + 1, none⟩ = some (.int .i64 (rd (rd_L4 a2 (g2)) 1))) (ds := []) laws_FnBeamsGo.tab45 laws_FnBeamsGo.bits45 ⟨cb a3 0, cb a3 1, c3, e3, i7⟩ (fun hHeld HT_ HW_ => ?_)
 generalize wc.drew = gg9 at a9 d2 a3 a5 a6 a7 a8 b1 c5 HB c3 e3 i7 hHeld ⊢
 iterate 56 (first | refine rA HT_ ?_ | refine rB HT_ ?_ | refine rT HT_ HW_ hHeld ?_)
 refine pD HT_ ?_
 repeat (go_not_at_region 14; go_not_at_region 20; go_not_at_region 29; go_not_at_region 30; go_not_at_region 45; go_not_at_region 83; go_not_at_region 86; first | go_skip | go_guarded | go_step | go_upon)
 (try rw [dSet])
 go_roundg q8
 case measure => exact laws_FnBeamsGo.jx
 case rel => exact ⟨(j4), (wrap64 (a4 + 1)), sR, sR, H', ⟨laws_FnBeamsGo.jx⟩, ⟨oS a9⟩, (bA a3), (bA a5), (bA a6), (bA a7), ⟨bB⟩⟩
 )
 )
 rw [if_neg a25] at H
 exact absurd H (by simp)
 )
 rw [if_neg I8] at H
 have bf9 : decide (0 < (rd (rd_L4 a2 (g2)) 0)) = false := decide_eq_false I8
 clear I8
 by_cases a29 : 1 < ((rd_L4 a2 (g2)).length : Int)
 ·(
 rw [if_pos a29] at H
 have dl0 : decide (1 < ((rd_L4 a2 (g2)).length : Int)) = true := decide_eq_true a29
 have dl1 : decide (1 < (rd_L4 a2 (g2)).length) = true := decide_eq_true (nl1 a29)
 clear a29
 by_cases J4 : (rd (rd_L4 a2 (g2)) 1) > 0
 ·(
 rw [if_pos J4] at H
 have bg5 : decide (0 < (rd (rd_L4 a2 (g2)) 1)) = true := decide_eq_true J4
 clear J4
 by_cases J5 : (rd (rd_L4 a2 (g2)) 1) < b6
 ·(
 rw [if_pos J5] at H
 have bg6 : decide ((rd (rd_L4 a2 (g2)) 1) < b6) = true := decide_eq_true J5
 clear J5
 by_cases a30 : 1 < ((rd_L4 a2 (b3)).length : Int)
 ·(
 rw [if_pos a30] at H
 have dl2 : decide (1 < ((rd_L4 a2 (b3)).length : Int)) = true := decide_eq_true a30
 have dl3 : decide (1 < (rd_L4 a2 (b3)).length) = true := decide_eq_true (nl1 a30)
 clear a30
 by_cases a31 : (wrap64 ((rd (rd_L4 a2 a4) 1) - (rd (rd_L4 a2 (g2)) 1))) = (wrap64 ((rd (rd_L4 a2 (g2)) 1) - (rd (rd_L4 a2 (b3)) 1)))
 ·(
 rw [if_pos a31] at H
 obtain ⟨dl4, dl5⟩ := yE a31
 clear a31
 have H' := Aside0.mk H
 clear H
 have g0 : 0 ≤ ((b3) : Int) := of_decide_eq_true asm
 have g1 : (b3) < (a2.length : Int) := of_decide_eq_true (by first | exact dj1 | exact asm)
 obtain ⟨k0, q9, r0, n2, h5, e6, e7⟩ := at_L4 (Kd.S_reads' a9.out).2.2 (b3) g0 g1
 obtain rfl : j9 = k0 := (by injection n2)
 obtain ⟨uz7, i1, i2, g5⟩ := Kd.S_get a9.out [] (b3) g0 (by first | exact g1 | exact of_decide_eq_true asm | (have e_ := (Kd.S_reads' a9.out).1; omega))
 obtain ⟨p2, rfl, d1⟩ := i2
 have b7 := g5 0 _ rfl
 rw [Nat.add_zero, show ((Kd.slice 3 (Kd.int .i64))).sz = 1 from rfl, Nat.mul_one] at b7
 replace b7 := Option.some.inj (b7.symm.trans h5)
 rw [b7] at d1
 have d2 := Aside0.mk (show Kd.R (Kd.int .i64) 3 _ _ _ _ (rd_L4 a2 (b3)) from d1)
 clear b7 d1 g5 i1
 have c5 := Aside0.mk e7
 have p3 := Aside0.mk e6
 clear e7 e6
 replace g0 := eq_true g0
 replace g1 := eq_true g1
 repeat (go_not_at_region 14; go_not_at_region 20; go_not_at_region 29; go_not_at_region 30; go_not_at_region 45; go_not_at_region 83; go_not_at_region 86; first | go_skip | go_guarded | go_step | go_upon)
 replace a9 := Aside0.mk (Kd.S_drew a9.out)
 replace d2 := Aside0.mk (Kd.R_drew d2.out)
 replace a3 := bD1 a3
 replace a5 := bD1 a5
 replace a6 := bD1 a6
 replace a7 := bD1 a7
 replace a8 := Aside0.mk (Kd.C_drew a8.out)
 replace b1 := Aside0.mk (Kd.C_drew b1.out)
 replace c5 := Aside0.mk (Kd.C_drew c5.out)
 replace HB := Aside0.mk (below_drew1 HB.out)
 have h2 : 0 ≤ (0 : Int) := (by decide)
 have h3 : 0 < ((rd_L4 a2 (g2)).length : Int) := of_decide_eq_true (by first | exact dj2 | exact d31 | exact asm)
 obtain ⟨b0, n3, c3⟩ := Kd.at_int (cR a8) 0 h2 h3
 cases n3
 have uz9 : (0 < (rd_L4 a2 (g2)).length) = True := eq_true (nl0 h3)
 (try rw [show ((0 : Int)).toNat = 0 from rfl] at c3)
 (try rw [Addr.add_zero'] at c3)
 replace h2 := eq_true h2
 replace h3 := eq_true h3
 have s9 : 0 ≤ (1 : Int) := (by decide)
 have uz0 : 1 < ((rd_L4 a2 (g2)).length : Int) := of_decide_eq_true (by first | exact dl0 | exact dk4 | exact dj8 | exact asm)
 obtain ⟨G6, S0, i9⟩ := Kd.at_int (cR a8) 1 s9 uz0
 obtain rfl : b0 = G6 := (by injection S0)
 (try simp only [show (1 : Int).toNat = 1 from rfl, Nat.reduceMul, Nat.reduceEqDiff, Go.Addr.add, ↓reduceIte] at i9)
 have b38 : (1 < (rd_L4 a2 (g2)).length) = True := eq_true (nl1 uz0)
 (try rw [show ((1 : Int)).toNat = 1 from rfl] at i9)
 replace s9 := eq_true s9
 replace uz0 := eq_true uz0
 have F4 : 0 ≤ (1 : Int) := (by decide)
 have F5 : 1 < ((rd_L4 a2 (g2)).length : Int) := of_decide_eq_true (by first | exact dl0 | exact dk4 | exact dj8 | exact asm)
 obtain ⟨a32, ai3, o7⟩ := Kd.at_int (cR a8) 1 F4 F5
 obtain rfl : b0 = a32 := (by injection ai3)
 (try simp only [show (1 : Int).toNat = 1 from rfl, Nat.reduceMul, Nat.reduceEqDiff, Go.Addr.add, ↓reduceIte] at o7)
 have bk2 : (1 < (rd_L4 a2 (g2)).length) = True := eq_true (nl1 F5)
 (try rw [show ((1 : Int)).toNat = 1 from rfl] at o7)
 replace F4 := eq_true F4
 replace F5 := eq_true F5
 have ai4 : 0 ≤ (1 : Int) := (by decide)
 have ai5 : 1 < ((rd_L4 a2 (g2)).length : Int) := of_decide_eq_true (by first | exact dl0 | exact dk4 | exact dj8 | exact asm)
 obtain ⟨bk3, bx0, E5⟩ := Kd.at_int (cR a8) 1 ai4 ai5
 obtain rfl : b0 = bk3 := (by injection bx0)
 (try simp only [show (1 : Int).toNat = 1 from rfl, Nat.reduceMul, Nat.reduceEqDiff, Go.Addr.add, ↓reduceIte] at E5)
 have gc6 : (1 < (rd_L4 a2 (g2)).length) = True := eq_true (nl1 ai5)
 (try rw [show ((1 : Int)).toNat = 1 from rfl] at E5)
 replace ai4 := eq_true ai4
 replace ai5 := eq_true ai5
 have ai6 : 0 ≤ (1 : Int) := (by decide)
 have ai7 : 1 < ((rd_L4 a2 (g2)).length : Int) := of_decide_eq_true (by first | exact dl0 | exact dk4 | exact dj8 | exact asm)
 obtain ⟨bk4, bx1, E6⟩ := Kd.at_int (cR a8) 1 ai6 ai7
 obtain rfl : b0 = bk4 := (by injection bx1)
 (try simp only [show (1 : Int).toNat = 1 from rfl, Nat.reduceMul, Nat.reduceEqDiff, Go.Addr.add, ↓reduceIte] at E6)
 have gc7 : (1 < (rd_L4 a2 (g2)).length) = True := eq_true (nl1 ai7)
 (try rw [show ((1 : Int)).toNat = 1 from rfl] at E6)
 replace ai6 := eq_true ai6
 replace ai7 := eq_true ai7
 have ai8 : 0 ≤ (1 : Int) := (by decide)
 have ai9 : 1 < ((rd_L4 a2 (b3)).length : Int) := of_decide_eq_true (by first | exact dl2 | exact dk6 | exact dk0 | exact asm)
 obtain ⟨b39, bx2, E7⟩ := Kd.at_int (cR c5) 1 ai8 ai9
 cases bx2
 (try simp only [show (1 : Int).toNat = 1 from rfl, Nat.reduceMul, Nat.reduceEqDiff, Go.Addr.add, ↓reduceIte] at E7)
 have gc8 : (1 < (rd_L4 a2 (b3)).length) = True := eq_true (nl1 ai9)
 (try rw [show ((1 : Int)).toNat = 1 from rfl] at E7)
 replace ai8 := eq_true ai8
 replace ai9 := eq_true ai9
 as_aux_lemma => (
 refine st_ 56 laws_FnBeamsGo.pl8 (S := fun w' => w'.cell? ⟨e8, 0, none⟩ = some (.int .i64 b9) ∧ w'.cell? ⟨e8, 1, none⟩ = some (.int .i64 b6) ∧ w'.cell? b0 = some (.int .i64 (rd (rd_L4 a2 (g2)) 0)) ∧ w'.cell? ⟨b0.block, b0.off + 1, none⟩ = some (.int .i64 (rd (rd_L4 a2 (g2)) 1)) ∧ w'.cell? ⟨b0.block, b0.off + 1, none⟩ = some (.int .i64 (rd (rd_L4 a2 (g2)) 1)) ∧ w'.cell? ⟨b0.block, b0.off + 1, none⟩ = some (.int .i64 (rd (rd_L4 a2 (g2)) 1)) ∧ w'.cell? ⟨b0.block, b0.off + 1, none⟩ = some (.int .i64 (rd (rd_L4 a2 (g2)) 1)) ∧ w'.cell? ⟨b39.block, b39.off + 1, none⟩ = some (.int .i64 (rd (rd_L4 a2 (b3)) 1))) (ds := []) laws_FnBeamsGo.tab45 laws_FnBeamsGo.bits45 ⟨cb a3 0, cb a3 1, c3, i9, o7, E5, E6, E7⟩ (fun hHeld HT_ HW_ => ?_)
 generalize wc.drew = gh0 at a9 d2 a3 a5 a6 a7 a8 b1 c5 HB c3 i9 o7 E5 E6 E7 hHeld ⊢
 iterate 56 (first | refine rA HT_ ?_ | refine rB HT_ ?_ | refine rT HT_ HW_ hHeld ?_)
 refine pD HT_ ?_
 repeat (go_not_at_region 14; go_not_at_region 20; go_not_at_region 29; go_not_at_region 30; go_not_at_region 45; go_not_at_region 83; go_not_at_region 86; first | go_skip | go_guarded | go_step | go_upon)
 (try rw [dSet])
 go_roundg q8
 case measure => exact laws_FnBeamsGo.jx
 case rel => exact ⟨(j4), (wrap64 (a4 + 1)), sR, sR, H', ⟨laws_FnBeamsGo.jx⟩, ⟨oS a9⟩, (bA a3), (bA a5), (bA a6), (bA a7), ⟨bB⟩⟩
 )
 )
 rw [if_neg a31] at H
 exact fy HT_l H
 )
 rw [if_neg a30] at H
 exact absurd H (by simp)
 )
 rw [if_neg J5] at H
 have bg6 : decide ((rd (rd_L4 a2 (g2)) 1) < b6) = false := decide_eq_false J5
 clear J5
 have H' := Aside0.mk H
 clear H
 have g0 : 0 ≤ ((b3) : Int) := of_decide_eq_true asm
 have g1 : (b3) < (a2.length : Int) := of_decide_eq_true (by first | exact dj1 | exact asm)
 obtain ⟨k0, q9, r0, n2, h5, e6, e7⟩ := at_L4 (Kd.S_reads' a9.out).2.2 (b3) g0 g1
 obtain rfl : j9 = k0 := (by injection n2)
 obtain ⟨uz7, i1, i2, g5⟩ := Kd.S_get a9.out [] (b3) g0 (by first | exact g1 | exact of_decide_eq_true asm | (have e_ := (Kd.S_reads' a9.out).1; omega))
 obtain ⟨p2, rfl, d1⟩ := i2
 have b7 := g5 0 _ rfl
 rw [Nat.add_zero, show ((Kd.slice 3 (Kd.int .i64))).sz = 1 from rfl, Nat.mul_one] at b7
 replace b7 := Option.some.inj (b7.symm.trans h5)
 rw [b7] at d1
 have d2 := Aside0.mk (show Kd.R (Kd.int .i64) 3 _ _ _ _ (rd_L4 a2 (b3)) from d1)
 clear b7 d1 g5 i1
 have c5 := Aside0.mk e7
 have p3 := Aside0.mk e6
 clear e7 e6
 replace g0 := eq_true g0
 replace g1 := eq_true g1
 repeat (go_not_at_region 14; go_not_at_region 20; go_not_at_region 29; go_not_at_region 30; go_not_at_region 45; go_not_at_region 83; go_not_at_region 86; first | go_skip | go_guarded | go_step | go_upon)
 replace a9 := Aside0.mk (Kd.S_drew a9.out)
 replace d2 := Aside0.mk (Kd.R_drew d2.out)
 replace a3 := bD1 a3
 replace a5 := bD1 a5
 replace a6 := bD1 a6
 replace a7 := bD1 a7
 replace a8 := Aside0.mk (Kd.C_drew a8.out)
 replace b1 := Aside0.mk (Kd.C_drew b1.out)
 replace c5 := Aside0.mk (Kd.C_drew c5.out)
 replace HB := Aside0.mk (below_drew1 HB.out)
 have h2 : 0 ≤ (0 : Int) := (by decide)
 have h3 : 0 < ((rd_L4 a2 (g2)).length : Int) := of_decide_eq_true (by first | exact dj2 | exact d31 | exact asm)
 obtain ⟨b0, n3, c3⟩ := Kd.at_int (cR a8) 0 h2 h3
 cases n3
 have uz9 : (0 < (rd_L4 a2 (g2)).length) = True := eq_true (nl0 h3)
 (try rw [show ((0 : Int)).toNat = 0 from rfl] at c3)
 (try rw [Addr.add_zero'] at c3)
 replace h2 := eq_true h2
 replace h3 := eq_true h3
 have s9 : 0 ≤ (1 : Int) := (by decide)
 have uz0 : 1 < ((rd_L4 a2 (g2)).length : Int) := of_decide_eq_true (by first | exact dl0 | exact dk4 | exact dj8 | exact asm)
 obtain ⟨G6, S0, i9⟩ := Kd.at_int (cR a8) 1 s9 uz0
 obtain rfl : b0 = G6 := (by injection S0)
 (try simp only [show (1 : Int).toNat = 1 from rfl, Nat.reduceMul, Nat.reduceEqDiff, Go.Addr.add, ↓reduceIte] at i9)
 have b38 : (1 < (rd_L4 a2 (g2)).length) = True := eq_true (nl1 uz0)
 (try rw [show ((1 : Int)).toNat = 1 from rfl] at i9)
 replace s9 := eq_true s9
 replace uz0 := eq_true uz0
 have F4 : 0 ≤ (1 : Int) := (by decide)
 have F5 : 1 < ((rd_L4 a2 (g2)).length : Int) := of_decide_eq_true (by first | exact dl0 | exact dk4 | exact dj8 | exact asm)
 obtain ⟨a32, ai3, o7⟩ := Kd.at_int (cR a8) 1 F4 F5
 obtain rfl : b0 = a32 := (by injection ai3)
 (try simp only [show (1 : Int).toNat = 1 from rfl, Nat.reduceMul, Nat.reduceEqDiff, Go.Addr.add, ↓reduceIte] at o7)
 have bk2 : (1 < (rd_L4 a2 (g2)).length) = True := eq_true (nl1 F5)
 (try rw [show ((1 : Int)).toNat = 1 from rfl] at o7)
 replace F4 := eq_true F4
 replace F5 := eq_true F5
 as_aux_lemma => (
 refine st_ 56 laws_FnBeamsGo.pl9 (S := fun w' => w'.cell? ⟨e8, 0, none⟩ = some (.int .i64 b9) ∧ w'.cell? ⟨e8, 1, none⟩ = some (.int .i64 b6) ∧ w'.cell? b0 = some (.int .i64 (rd (rd_L4 a2 (g2)) 0)) ∧ w'.cell? ⟨b0.block, b0.off + 1, none⟩ = some (.int .i64 (rd (rd_L4 a2 (g2)) 1)) ∧ w'.cell? ⟨b0.block, b0.off + 1, none⟩ = some (.int .i64 (rd (rd_L4 a2 (g2)) 1))) (ds := []) laws_FnBeamsGo.tab45 laws_FnBeamsGo.bits45 ⟨cb a3 0, cb a3 1, c3, i9, o7⟩ (fun hHeld HT_ HW_ => ?_)
 generalize wc.drew = gh1 at a9 d2 a3 a5 a6 a7 a8 b1 c5 HB c3 i9 o7 hHeld ⊢
 iterate 56 (first | refine rA HT_ ?_ | refine rB HT_ ?_ | refine rT HT_ HW_ hHeld ?_)
 refine pD HT_ ?_
 repeat (go_not_at_region 14; go_not_at_region 20; go_not_at_region 29; go_not_at_region 30; go_not_at_region 45; go_not_at_region 83; go_not_at_region 86; first | go_skip | go_guarded | go_step | go_upon)
 (try rw [dSet])
 go_roundg q8
 case measure => exact laws_FnBeamsGo.jx
 case rel => exact ⟨(j4), (wrap64 (a4 + 1)), sR, sR, H', ⟨laws_FnBeamsGo.jx⟩, ⟨oS a9⟩, (bA a3), (bA a5), (bA a6), (bA a7), ⟨bB⟩⟩
 )
 )
 rw [if_neg J4] at H
 have bg5 : decide (0 < (rd (rd_L4 a2 (g2)) 1)) = false := decide_eq_false J4
 clear J4
 have H' := Aside0.mk H
 clear H
 have g0 : 0 ≤ ((b3) : Int) := of_decide_eq_true asm
 have g1 : (b3) < (a2.length : Int) := of_decide_eq_true (by first | exact dj1 | exact asm)
 obtain ⟨k0, q9, r0, n2, h5, e6, e7⟩ := at_L4 (Kd.S_reads' a9.out).2.2 (b3) g0 g1
 obtain rfl : j9 = k0 := (by injection n2)
 obtain ⟨uz7, i1, i2, g5⟩ := Kd.S_get a9.out [] (b3) g0 (by first | exact g1 | exact of_decide_eq_true asm | (have e_ := (Kd.S_reads' a9.out).1; omega))
 obtain ⟨p2, rfl, d1⟩ := i2
 have b7 := g5 0 _ rfl
 rw [Nat.add_zero, show ((Kd.slice 3 (Kd.int .i64))).sz = 1 from rfl, Nat.mul_one] at b7
 replace b7 := Option.some.inj (b7.symm.trans h5)
 rw [b7] at d1
 have d2 := Aside0.mk (show Kd.R (Kd.int .i64) 3 _ _ _ _ (rd_L4 a2 (b3)) from d1)
 clear b7 d1 g5 i1
 have c5 := Aside0.mk e7
 have p3 := Aside0.mk e6
 clear e7 e6
 replace g0 := eq_true g0
 replace g1 := eq_true g1
 repeat (go_not_at_region 14; go_not_at_region 20; go_not_at_region 29; go_not_at_region 30; go_not_at_region 45; go_not_at_region 83; go_not_at_region 86; first | go_skip | go_guarded | go_step | go_upon)
 replace a9 := Aside0.mk (Kd.S_drew a9.out)
 replace d2 := Aside0.mk (Kd.R_drew d2.out)
 replace a3 := bD1 a3
 replace a5 := bD1 a5
 replace a6 := bD1 a6
 replace a7 := bD1 a7
 replace a8 := Aside0.mk (Kd.C_drew a8.out)
 replace b1 := Aside0.mk (Kd.C_drew b1.out)
 replace c5 := Aside0.mk (Kd.C_drew c5.out)
 replace HB := Aside0.mk (below_drew1 HB.out)
 have h2 : 0 ≤ (0 : Int) := (by decide)
 have h3 : 0 < ((rd_L4 a2 (g2)).length : Int) := of_decide_eq_true (by first | exact dj2 | exact d31 | exact asm)
 obtain ⟨b0, n3, c3⟩ := Kd.at_int (cR a8) 0 h2 h3
 cases n3
 have uz9 : (0 < (rd_L4 a2 (g2)).length) = True := eq_true (nl0 h3)
 (try rw [show ((0 : Int)).toNat = 0 from rfl] at c3)
 (try rw [Addr.add_zero'] at c3)
 replace h2 := eq_true h2
 replace h3 := eq_true h3
 have s9 : 0 ≤ (1 : Int) := (by decide)
 have uz0 : 1 < ((rd_L4 a2 (g2)).length : Int) := of_decide_eq_true (by first | exact dl0 | exact dk4 | exact dj8 | exact asm)
 obtain ⟨G6, S0, i9⟩ := Kd.at_int (cR a8) 1 s9 uz0
 obtain rfl : b0 = G6 := (by injection S0)
 (try simp only [show (1 : Int).toNat = 1 from rfl, Nat.reduceMul, Nat.reduceEqDiff, Go.Addr.add, ↓reduceIte] at i9)
 have b38 : (1 < (rd_L4 a2 (g2)).length) = True := eq_true (nl1 uz0)
 (try rw [show ((1 : Int)).toNat = 1 from rfl] at i9)
 replace s9 := eq_true s9
 replace uz0 := eq_true uz0
 as_aux_lemma => (
 refine st_ 56 laws_FnBeamsGo.pl10 (S := fun w' => w'.cell? b0 = some (.int .i64 (rd (rd_L4 a2 (g2)) 0)) ∧ w'.cell? ⟨b0.block, b0.off + 1, none⟩ = some (.int .i64 (rd (rd_L4 a2 (g2)) 1))) (ds := []) laws_FnBeamsGo.tab45 laws_FnBeamsGo.bits45 ⟨c3, i9⟩ (fun hHeld HT_ HW_ => ?_)
 generalize wc.drew = gh2 at a9 d2 a3 a5 a6 a7 a8 b1 c5 HB c3 i9 hHeld ⊢
 iterate 56 (first | refine rA HT_ ?_ | refine rB HT_ ?_ | refine rT HT_ HW_ hHeld ?_)
 refine pD HT_ ?_
 repeat (go_not_at_region 14; go_not_at_region 20; go_not_at_region 29; go_not_at_region 30; go_not_at_region 45; go_not_at_region 83; go_not_at_region 86; first | go_skip | go_guarded | go_step | go_upon)
 (try rw [dSet])
 go_roundg q8
 case measure => exact laws_FnBeamsGo.jx
 case rel => exact ⟨(j4), (wrap64 (a4 + 1)), sR, sR, H', ⟨laws_FnBeamsGo.jx⟩, ⟨oS a9⟩, (bA a3), (bA a5), (bA a6), (bA a7), ⟨bB⟩⟩
 )
 )
 rw [if_neg a29] at H
 exact absurd H (by simp)
 )
 rw [if_neg a18] at H
 exact absurd H (by simp)
 )
 rw [if_neg a17] at H
 exact absurd H (by simp)
 )
 rw [if_neg a16] at H
 exact absurd H (by simp)
 )
 rw [if_neg I7] at H
 have bf8 : decide (1 < a4) = false := decide_eq_false I7
 clear I7
 have H' := Aside0.mk H
 clear H
 repeat (go_not_at_region 14; go_not_at_region 20; go_not_at_region 29; go_not_at_region 30; go_not_at_region 45; go_not_at_region 83; go_not_at_region 86; first | go_skip | go_guarded | go_step | go_upon)
 go_roundg q8
 case measure => exact laws_FnBeamsGo.jx
 case rel => exact ⟨(j4), (wrap64 (a4 + 1)), sR, sR, H', ⟨laws_FnBeamsGo.jx⟩, ⟨oS a9⟩, (bA a3), (bA a5), (bA a6), (bA a7), ⟨bB⟩⟩
 )
 )
 )
 )
 )
 )
 )
 )
 )
 )
 )
 )
 )
 rw [if_neg X6] at H
 exact absurd H (by simp)
 )
 rw [if_neg X5] at H
 exact absurd H (by simp)
 )
 rw [if_neg X4] at H
 exact absurd H (by simp)
 )
 rw [if_neg X3] at H
 exact absurd H (by simp)
 )
 rw [if_neg X2] at H
 exact absurd H (by simp)
 )
 rw [if_neg I4] at H
 have a91 : decide (a4 < (a2.length : Int)) = false := decide_eq_false I4
 clear I4
 by_cases a33 : b2 = (d4.size : Int)
 ·(
 rw [if_pos a33] at H
 obtain ⟨dl6, dl7⟩ := yE a33
 clear a33
 have H' := Aside0.mk H
 clear H
 obtain ⟨gc9, gd0, bk5⟩ := Kd.S_slice a9.out
 subst bk5
 repeat (go_not_at_region 14; go_not_at_region 20; go_not_at_region 29; go_not_at_region 30; go_not_at_region 45; go_not_at_region 83; go_not_at_region 86; first | go_skip | go_guarded | go_step | go_upon)
 go_meet
 case rel => exact ⟨_, H', ⟨laws_FnBeamsGo.jx⟩, (bA a3), (bA a5), (bA a6), (bA a7), ⟨bB⟩⟩
 )
 rw [if_neg a33] at H
 exact fy HT_l H
 )
 )
 )
 )
 replace N6 := Bool.eq_false_iff.mpr N6
 subst N6
 rw [if_neg nft] at H
 exact fy HT_l H
 )
 )
 )
 )
 )
 )
 )
 replace N5 := Bool.eq_false_iff.mpr N5
 subst N5
 rw [if_neg nft] at H
 have H' := Aside0.mk H
 clear H
 repeat (go_not_at_region 14; go_not_at_region 20; go_not_at_region 29; go_not_at_region 30; go_not_at_region 45; go_not_at_region 83; go_not_at_region 86; first | go_skip | go_guarded | go_step | go_upon)
 go_meet
 case rel => exact ⟨_, H', ⟨laws_FnBeamsGo.jx⟩, (bA a3), (bA a5), (bA a6), (bA a7), ⟨bB⟩⟩
 )
 )
 clear U3
 obtain ⟨kq, HA, HJ128, a3, a5, a6, a7, HB⟩ := hcut
 rename_i K_ aK_
 exact aK_ _ _ (hR_ k A0 c0 l0 A1 c1 l1 r w b9 b6 c7 c8 c9 d0 q4 a2 E8 T9 b67 o8 o9 b68 b69 k9 n1 b71 b72 l2 m3 b75 b76 g6 g7 g8 g9 ae7 h7 h8 h9 i0 b79 e8 h4 E9 b81 h0 e2 u151 u152 u153 u154 u155 u156 u157 u158 u159 u160 u161 u162 u163 u164 u165 u166 u167 u168 u169 u170 u171 u172 u173 u174 u175 u176 u177 u178 u179 u180 u181 u182 u183 u184 u185 u186 u187 u188 u189 u190 u191 u192 u193 u194 u195 u196 u197 u198 u199 u200 u201 u202 u203 u204 u205 u206 u207 u208 u209 u210 u211 u212 u213 u214 u215 u216 u217 u218 u219 u220 u221 u222 u223 u224 u225 u226 u227 u228 u229 u230 u231 u232 u233 u234 u235 u236 u237 u238 u239 u240 u241 u242 u243 u244 u245 u246 u247 u248 u249 u250 u251 u252 u253 u254 u255 u256 u257 b92 wc u4 u28 u29 u30 u31 u32 u33 u34 u35 u36 u37 u38 u39 u259 u260 u261 u262 u263 u264 u265 u266 u267 u268 u269 u270 u271 u272 u273 u274 u275 u276 u277 u278 u279 u280 u281 u282 u283 u284 u285 u286 u287 u288 u289 u290 u291 u292 u293 u294 u295 u296 u297 u298 u299 u300 u301 u302 u303 u304 u305 u306 u307 u308 u309 u310 u311 u312 u313 u314 u315 u316 u317 u318 u319 u320 u321 u322 u323 u324 u325 u326 u327 u328 u329 u330 u331 u332 u333 u334 u335 u336 u337 u338 u339 u340 u341 u342 u343 u344 u345 u346 u347 u348 u349 u350 u351 u352 u353 u354 u355 u356 u357 u358 u359 u360 u361 u362 u363 u364 u365 u366 u367 u368 u369 u370 u371 u372 u373 u374 u375 u376 u377 u378 u379 u380 u381 u382 u383 u384 u385 u386 u387 u388 u389 u390 u391 u392 u393 u394 u395 u396 u397 u398 u399 u400 u401 u402 u403 u404 u405 u406 u407 u408 u409 u410 u411 u412 u413 u414 u415 u416 u417 u418 u419 u420 u421 u422 u423 u424 u425 u426 u427 u428 u429 u430 u431 u432 u433 u434 u435 u436 u437 u438 u439 u440 u441 u442 u443 u444 u445 u446 u447 u448 u449 u450 u451 u452 u453 u454 u455 u456 u457 u458 u459 u460 u461 u462 u463 u464 u465 u466 u467 u468 u469 u470 u471 u472 u473 u474 u475 u476 u477 u478 u479 u480 u481 u482 u483 u484 u485 u486 u487 u488 u489 u490 u491 u492 u493 u494 u495 u496 u497 u498 u499 u500 u501 u502 u503 u504 u505 u506 u507 u508 u509 u510 u511 u512 u513 u514 u515 u516 kq HR0 HC0 HR1 HC1 HT_l A3 A5 A6 A7 A8 A9 A10 A11 A12 A13 A14 A15 g55 g56 g57 g58 d5 d6 g61 g62 d8 d9 uz3 uz4 g67 g68 e0 e1 uz5 uz6 K0 K1 HJ15 HA HJ128 a3 a5 a6 a7 HB)
 )
 )
end Go.Proofs.Ythfbjofmcniogaa.PFnBeamsGo
