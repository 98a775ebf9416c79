-- Written by split3.py: the law's walk behind cut 2.
import Derived.Test.YtlmiaadpnbehgaaDoorVM
import Derived.Test.YtlmiaadpnbehgaaDoorVF
import Derived.Test.YtlmiaadpnbehgaaDoorVS
import Derived.Test.YtlmiaadpnbehgaaDoorPFnBeamsEndOfAllx0
import Derived.Test.YtlmiaadpnbehgaaDoorPFnBeamsEndOfAllx1
import Derived.Test.YtlmiaadpnbehgaaDoorPFnBeamsEndOfAllx2
import Derived.Test.YtlmiaadpnbehgaaDoorPFnBeamsEndOfAllx3
import Derived.Test.YtlmiaadpnbehgaaDoorPFnBeamsEndOfAllx6
import Derived.Test.YtlmiaadpnbehgaaDoorPFnBeamsEndOfAllx10
import Derived.Test.YtlmiaadpnbehgaaDoorPFnBeamsEndOfAllx11
import Derived.Test.YtlmiaadpnbehgaaDoorPFnBeamsEndOfAllx12
import Derived.Test.YtlmiaadpnbehgaaDoorPFnBeamsEndOfAllx13
import Derived.Test.YtlmiaadpnbehgaaDoorPFnBeamsEndOfAllx14
import Derived.Test.YtlmiaadpnbehgaaDoorPFnBeamsEndOfAllx15
import Derived.Test.YtlmiaadpnbehgaaDoorPFnBeamsEndOfAllx17
import Derived.Test.YtlmiaadpnbehgaaDoorPFnBeamsEndOfAllx18
import Derived.Test.YtlmiaadpnbehgaaDoorPFnBeamsEndOfAllx19
namespace Go.Proofs.YtlmiaadpnbehgaaDoor.PFnBeamsEndOfAll
open Go.Proofs.YtlmiaadpnbehgaaDoorV Go.RowKit Go.Proofs.YtlmiaadpnbehgaaDoorW.PrintWords Go.Proofs.YtlmiaadpnbehgaaDoorW.PrintLast Go.Proofs.YtlmiaadpnbehgaaDoorW.PrintMore
attribute [local go_sem] max2_int min2_int max_two min_two max_three min_three max_four min_four   -- for this text's walks alone
attribute [local go_sem ↓] rdl_zero rdl_succ eval_lit
set_option linter.unusedVariables false
set_option linter.unusedSimpArgs false
attribute [local go_sem high] eqA23 eqA25
set_option maxHeartbeats 100000000 in
set_option maxRecDepth 100000 in
theorem laws_FnBeamsEndOfAll.rest2 (hR_ : laws_FnBeamsEndOfAll.RestSaid3) : laws_FnBeamsEndOfAll.RestSaid2 := by
 intro k a0_0 a0_1 a1_0 a1_1 a1_2 a1_3 a2_0 a2_1 a3 a4 r w b5 j1 S5 S6 h3 g5 A0 S9 T0 T1 c3 A1 T4 T5 d4 A2 T8 T9 c4 g8 b9 u129 u130 u131 u132 u133 u134 u135 u136 u137 u138 u139 u140 u141 u142 u143 u144 u145 u146 u147 u148 u149 u150 u151 u152 u153 u154 u155 u156 u157 u158 u159 u160 u161 u162 u163 u164 u165 u166 u167 u168 u169 u170 u171 u172 u173 u174 u175 u176 u177 u178 u179 u180 u181 u182 u183 u184 u185 b0 u10 u29 u30 u31 u32 u33 u34 u187 u188 u189 u190 u191 u192 u193 u194 u195 u196 u197 u198 u199 u200 u201 u202 u203 u204 u205 u206 u207 u208 u209 u210 u211 u212 u213 u214 u215 u216 u217 u218 u219 u220 u221 u222 u223 u224 u225 u226 u227 u228 u229 u230 u231 u232 u233 u234 u235 u236 u237 u238 u239 u240 u241 u242 u243 u244 u245 u246 u247 u248 u249 u250 u251 u252 u253 u254 u255 u256 u257 u258 u259 u260 u261 u262 u263 u264 u265 u266 u267 u268 u269 u270 u271 u272 u273 u274 u275 u276 u277 u278 u279 u280 u281 u282 u283 u284 u285 b8 l5 l6 j2 U7 U8 U9 p4 p5 A6 V0 V1 V2 l7 A7 V3 V4 a8 l8 p6 V5 d1 d2 j3 e7 e8 V6 p8 V7 b7 b2 wc u340 u341 u342 u343 u344 u345 u346 u347 u348 u349 u350 u351 u352 u353 u354 u355 u356 u357 u358 u359 u360 u361 u362 u363 u364 u365 u366 u367 u368 u369 u370 u371 u372 u373 u374 u375 u376 u377 u378 u379 u380 u381 u382 u383 u384 u385 u386 u387 u388 u389 u390 u391 u392 u393 u394 u395 u396 u397 u398 u399 u400 u401 u402 u403 u404 u405 u406 u407 u408 u409 u410 u411 u412 u413 u414 u415 u416 u417 u418 u419 u420 kq h4 HM HT_l A10 A11 A12 A13 A14 A15 A16 A17 X5 X6 X7 X8 c9 d0 X9 Y0 c1 c2 d7 d8 HJ17 HJ60 a89 a90 a91 a92 a93 a94 a95 a96 a97 a98 bm0 bm1 k1 k2 k3 k4 h5 h6 bm2 bm3 x0 x1 x2 x5 k6 k7 k8 k9 HA HJ194 a9 a0 a1 a2 a5 a7 HB K1_ aK1_
 conv at aK1_ => enter [a_, w_, 1, 2]; whnf
 conv => enter [2]; whnf
 have bm9 := Tryd.underlying23
 have bn0 := Tryd.underlying25
 (try clear b09); (try clear b10); (try clear b11); (try clear b12); (try clear a99); (try clear aa0); (try clear aa1); (try clear aa2); (try clear aa3); (try clear aa4); (try clear aa5); (try clear aa6); (try clear aa7); (try clear aa8); (try clear aa9); (try clear ab0); (try clear ab1); (try clear ab2); (try clear ab3); (try clear ab4); (try clear ab5); (try clear ab6); (try clear ab7); (try clear ab8); (try clear ab9); (try clear ac0); (try clear ac1); (try clear ac2); (try clear ac3); (try clear ac4); (try clear ac5); (try clear ac6); (try clear ac7); (try clear ac8); (try clear ac9); (try clear ad0); (try clear b13); (try clear b14); (try clear b15); (try clear b16); (try clear b17); (try clear b18); (try clear b19); (try clear b20); (try clear b21); (try clear b22); (try clear b23); (try clear b24); (try clear b25); (try clear b26)
 cases kq with
 | zero => exact absurd HA.out (by simp [laws_FnBeamsEndOfAll.j3])
 | succ Z1 => (
 as_aux_lemma => (
 have H := HA.out
 clear HA
 simp only [laws_FnBeamsEndOfAll.j3] at H
 by_cases r4 : h4 = true
 ·(
 subst r4
 rw [if_pos rfl] at H
 exact fy HT_l H
 )
 replace r4 := Bool.eq_false_iff.mpr r4
 subst r4
 rw [if_neg nft] at H
 have r5 := Aside0.mk H
 clear H
 repeat (go_not_at_if 422; first | (with_reducible refine rgl ?_) | go_skip | go_guarded | go_step | go_upon)
 go_cut [422] from 422 to 422 (fun bo9 wc => ∃ (kq : Nat), Aside0 (laws_FnBeamsEndOfAll.j4 kq a3 a4 a8 l8 j3 d1 d2 = some r) ∧ Aside0 (kq ≤ Z1) ∧ Aside0 (Kd.R k23 23 wc w.heap.size (fun k_ => k_ ≠ c4 ∧ k_ ≠ b9 ∧ k_ ≠ b7 ∧ k_ ≠ b2) p8 a8) ∧ Aside0 (wc.heap[c4]? = some (.cells #[.int .i64 a0_0, .int .i64 a0_1] 23 (0, 0))) ∧ Aside0 (wc.heap[g8]? = some (.cells #[.int .i64 a1_0, .int .i64 a1_1, .bool a1_2, .bool a1_3] 25 (0, 0))) ∧ Aside0 (wc.heap[b9]? = some (.cells #[.int .i64 a2_0, .int .i64 a2_1] 23 (0, 0))) ∧ Aside0 (wc.heap[b7]? = some (.cells #[.int .i64 d1, .int .i64 d2] 23 (0, 0))) ∧ Aside0 (wc.heap[b2]? = some (.cells #[.int .i64 e7, .int .i64 e8] 23 (0, 0))) ∧ Aside0 (Below w.heap.size w wc))
 case first => (
 as_aux_lemma => (
 have H := r5.out
 clear r5
 by_cases r6 : j2 = true
 ·(
 subst r6
 rw [if_pos rfl] at H
 replace H := Option.bind_eq_some_iff.mp H; obtain ⟨⟨X1, ad8⟩, F6, H⟩ := H; (try dsimp only at H); have ad9 := Aside0.mk F6; clear F6
 replace H := Option.bind_eq_some_iff.mp H; obtain ⟨⟨X2, X3, ae0⟩, F7, H⟩ := H; (try dsimp only at H); have ae1 := Aside0.mk F7; clear F7
 replace H := Option.bind_eq_some_iff.mp H; obtain ⟨⟨l9, ae2⟩, F8, H⟩ := H; (try dsimp only at H); have ae3 := Aside0.mk F8; clear F8
 replace H := Option.bind_eq_some_iff.mp H; obtain ⟨⟨r7, r8, ae4⟩, F9, H⟩ := H; (try dsimp only at H); have ae5 := Aside0.mk F9; clear F9
 by_cases r9 : ad8 = true
 ·(
 subst r9
 rw [if_pos rfl] at H
 by_cases s0 : X1 = (wrap64 (l5 + l6))
 ·(
 rw [if_pos s0] at H
 obtain ⟨x7, b61⟩ := yE s0
 clear s0
 (first | rw [x7] | (simp only [i64_w, i32_w]; rw [x7]) | skip)
 by_cases s1 : ae0 = true
 ·(
 subst s1
 rw [if_pos rfl] at H
 by_cases s2 : X2 = p4
 ·(
 rw [if_pos s2] at H
 obtain ⟨b62, b63⟩ := yE s2
 clear s2
 by_cases s3 : X3 = p5
 ·(
 rw [if_pos s3] at H
 obtain ⟨b64, b65⟩ := yE s3
 clear s3
 by_cases s4 : ae2 = true
 ·(
 subst s4
 rw [if_pos rfl] at H
 by_cases A9 : a2_0 = 0
 ·(
 rw [if_pos A9] at H
 exact absurd H (by simp)
 )
 rw [if_neg A9] at H
 obtain ⟨b66, b67⟩ := nE A9
 by_cases s5 : (Int.tmod l9 a2_0) = 0
 ·(
 rw [if_pos s5] at H
 obtain ⟨b68, b69⟩ := yE s5
 clear s5
 by_cases B0 : a2_1 = 0
 ·(
 rw [if_pos B0] at H
 exact absurd H (by simp)
 )
 rw [if_neg B0] at H
 obtain ⟨b70, b71⟩ := nE B0
 by_cases s6 : (Int.tmod l9 a2_1) = 0
 ·(
 rw [if_pos s6] at H
 obtain ⟨b72, b73⟩ := yE s6
 clear s6
 by_cases s7 : (wrap64 (Int.tdiv l9 a2_0)) = (wrap64 (l5 + 1))
 ·(
 rw [if_pos s7] at H
 obtain ⟨b74, b75⟩ := yE s7
 clear s7
 by_cases s8 : (wrap64 (Int.tdiv l9 a2_1)) = (wrap64 (l6 + 1))
 ·(
 rw [if_pos s8] at H
 obtain ⟨b76, b77⟩ := yE s8
 clear s8
 by_cases s9 : ae4 = true
 ·(
 subst s9
 rw [if_pos rfl] at H
 by_cases uz0 : (!(r7 == a2_0) || (!(r8 == a2_1))) = true
 ·(
 rw [if_pos uz0] at H
 exact fy HT_l H
 )
 rw [if_neg uz0] at H
 have b78 : (!(r7 == a2_0) || (!(r8 == a2_1))) = false := by simpa using uz0
 clear uz0
 have H' := Aside0.mk H
 clear H
 repeat (go_not_at_region 32; go_not_at_region 47; first | ((with_reducible refine gate_dst (N := 59) rfl ?_); (try (refine gate_guard (by rfl) ?_; dsimp only)); refine box_ (cs := #[.int .i64 0, .int .i64 0, .bool false, .bool false]) (t := 25) fun l0 hg bp0 hbox hb => ?_; have c5 := Aside0.mk (hbox); have bm4 := bS HB hg; have bm5 := bS HB hg; have x8 := bL a0 hg; have x9 := bM a0 hg; have y0 := bL a1 hg; have y1 := bM a1 hg; have y2 := bL a2 hg; have y3 := bM a2 hg; have y4 := bL a5 hg; have y5 := bM a5 hg; have y6 := bL a7 hg; have y7 := bM a7 hg; replace a9 := Aside0.mk (Kd.R_below (oR a9) hb); replace a0 := bQ a0 hb; replace a1 := bQ a1 hb; replace a2 := bQ a2 hb; replace a5 := bQ a5 hb; replace a7 := bQ a7 hb; replace HB := Aside0.mk (below_step bB hb); clear hb hbox hg; have b79 := x9.out; have b80 := x8.out; have b81 := y1.out; have b82 := y0.out; have b83 := y3.out; have b84 := y2.out; have b85 := y5.out; have b86 := y4.out; have b87 := y7.out; have b88 := y6.out; obtain ⟨ae6, ae7, ae8, ae9, af0, af1, af2, af3⟩ := cf4 c5; have b89 := c2.out; have b90 := c1.out; have b91 := d8.out; have b92 := d7.out; have b93 := h5.out; have b94 := h6.out; have b95 := k6.out; have b96 := k7.out; obtain ⟨af4, af5, af6, af7⟩ := cf2 a2) | ((with_reducible refine gate_callee (f := 8) rfl ?_); refine goesL_ (some 427) rfl rfl Tryd.func8 kr rfl #[.agg #[.int .i64 a2_0, .int .i64 a2_1], .agg #[.int .i64 0, .int .i64 0, .bool true, .bool true]] rfl sM ?_; (with_reducible refine (impl_BouncesToCorner.calls a2_0 a2_1 0 0 true true X1 true _ ad9.out).mono ?_); rintro e bp1 ⟨rfl, hb⟩; refine ⟨_, rfl, ?_⟩; replace a9 := Aside0.mk (Kd.R_below (by (with_reducible repeat (first | apply Kd.R_alloc | apply Kd.R_drewN | apply Kd.R_drew)); exact (Kd.R_mono (Kd.R_far (p := ⟨l0, 3, none⟩) (Kd.R_far (p := ⟨l0, 2, none⟩) (Kd.R_far (p := ⟨l0, 1, none⟩) (Kd.R_far (p := ⟨l0, 0, none⟩) (Kd.R_types a9.out c5.out (by decide)) (fun _ hk => hk.2) (.int .i64 0)) (fun _ hk => hk.2) (.int .i64 0)) (fun _ hk => hk.2) (.bool true)) (fun _ hk => hk.2) (.bool true)) (fun _ h_ => h_.1))) hb); replace a0 := bQ a0 hb; replace a1 := bQ a1 hb; replace a2 := bQ a2 hb; replace a5 := bQ a5 hb; replace a7 := bQ a7 hb; replace c5 := (bP (.cells #[.int .i64 0, .int .i64 0, .bool true, .bool true] 25 (0, 0)) c5 hb); replace HB := Aside0.mk (below_step bB hb); (try clear hb); (try clear hk); obtain ⟨af8, af9, ag0, ag1⟩ := cf2 a2; obtain ⟨ag2, ag3, ag4, ag5, ag6, ag7, ag8, ag9⟩ := cf4 c5) | ((with_reducible refine gate_callee (f := 6) rfl ?_); refine goesL_ (some 433) rfl rfl Tryd.func6 kr rfl #[.agg #[.int .i64 a2_0, .int .i64 a2_1], .agg #[.int .i64 0, .int .i64 0, .bool true, .bool true]] rfl sM ?_; (with_reducible refine (impl_CornerOf.calls a2_0 a2_1 0 0 true true X2 X3 true _ ae1.out).mono ?_); rintro e bp2 ⟨rfl, hb⟩; refine ⟨_, rfl, ?_⟩; replace a9 := Aside0.mk (Kd.R_below (oR a9) hb); replace a0 := bQ a0 hb; replace a1 := bQ a1 hb; replace a2 := bQ a2 hb; replace a5 := bQ a5 hb; replace a7 := bQ a7 hb; replace c5 := bQ c5 hb; replace HB := Aside0.mk (below_step bB hb); (try clear hb); obtain ⟨ah0, ah1, ah2, ah3⟩ := cf2 a2; obtain ⟨ah4, ah5, ah6, ah7, ah8, ah9, ai0, ai1⟩ := cf4 c5) | ((with_reducible refine gate_callee (f := 4) rfl ?_); refine goesL_ (some 440) rfl rfl Tryd.func4 kr rfl #[.agg #[.int .i64 a2_0, .int .i64 a2_1], .agg #[.int .i64 0, .int .i64 0, .bool true, .bool true]] rfl sM ?_; (with_reducible refine (impl_StepsToCorner.calls a2_0 a2_1 0 0 true true l9 true _ ae3.out).mono ?_); rintro e bp3 ⟨rfl, hb⟩; refine ⟨_, rfl, ?_⟩; replace a9 := Aside0.mk (Kd.R_below (oR a9) hb); replace a0 := bQ a0 hb; replace a1 := bQ a1 hb; replace a2 := bQ a2 hb; replace a5 := bQ a5 hb; replace a7 := bQ a7 hb; replace c5 := bQ c5 hb; replace HB := Aside0.mk (below_step bB hb); (try clear hb)) | ((with_reducible refine gate_callee (f := 22) rfl ?_); refine goesL_ (some 445) rfl rfl Tryd.func22 kr rfl #[.string l7] rfl sM ?_; (with_reducible refine (impl_ParseTable.calls l7 r7 r8 true _ ae5.out (HM.out.below (by repeat (first | (with_reducible first | exact HB.out | apply below_alloc | apply pw_below_drewN | apply below_drew1 | refine below_set ?_ (Aside0.out (by assumption))) | exact HB.out)))).mono ?_); rintro e bp4 ⟨rfl, hb⟩; refine ⟨_, rfl, ?_⟩; replace a9 := Aside0.mk (Kd.R_below (oR a9) hb); replace a0 := bQ a0 hb; replace a1 := bQ a1 hb; replace a2 := bQ a2 hb; replace a5 := bQ a5 hb; replace a7 := bQ a7 hb; replace c5 := bQ c5 hb; replace HB := Aside0.mk (below_step bB hb); (try clear hb)) | ((with_reducible refine gate_dst (N := 67) rfl ?_); (try (refine gate_guard (by rfl) ?_; dsimp only)); refine box_ (cs := #[.int .i64 0, .int .i64 0]) (t := 23) fun l1 hg bp5 hbox hb => ?_; have Z2 := Aside0.mk (hbox); have bm6 := bS HB hg; have bm7 := bS HB hg; have y8 := bL a0 hg; have y9 := bM a0 hg; have z0 := bL a1 hg; have z1 := bM a1 hg; have z2 := bL a2 hg; have z3 := bM a2 hg; have z4 := bL a5 hg; have z5 := bM a5 hg; have z6 := bL a7 hg; have z7 := bM a7 hg; have z8 := bL c5 hg; have z9 := bM c5 hg; replace a9 := Aside0.mk (Kd.R_below (Kd.R_elderB (oR a9) l1 (Nat.le_of_eq hg.symm)) hb); replace a0 := bQ a0 hb; replace a1 := bQ a1 hb; replace a2 := bQ a2 hb; replace a5 := bQ a5 hb; replace a7 := bQ a7 hb; replace c5 := bQ c5 hb; replace HB := Aside0.mk (below_step bB hb); clear hb hbox hg; have b97 := y9.out; have b98 := y8.out; have b99 := z1.out; have ba0 := z0.out; have ba1 := z3.out; have ba2 := z2.out; have ba3 := z5.out; have ba4 := z4.out; have ba5 := z7.out; have ba6 := z6.out; have ba7 := z9.out; have ba8 := z8.out; obtain ⟨ai2, ai3, ai4, ai5⟩ := cf2 Z2; obtain ⟨ai6, ai7, ai8, ai9⟩ := cf2 a2) | (with_reducible refine rgl ?_) | go_skip | go_guarded | go_step | go_upon)
 go_meet
 case rel => exact ⟨_, H', ⟨laws_FnBeamsEndOfAll.jx⟩, ⟨by (with_reducible repeat (first | apply Kd.R_alloc | apply Kd.R_drewN | apply Kd.R_drew)); exact Kd.R_mono (Kd.R_far (p := ⟨l1, 1, none⟩) (Kd.R_far (p := ⟨l1, 0, none⟩) (Kd.R_mono a9.out (fun k_ hk => (⟨hk, hk.2⟩ : _ ∧ k_ ≠ l1))) (fun _ hk => hk.2) (.int .i64 r7)) (fun _ hk => hk.2) (.int .i64 r8)) (fun _ hk => ⟨hk.1.1.1, ⟨hk.1.1.2.1, ⟨hk.1.1.2.2.1, hk.1.1.2.2.2⟩⟩⟩)⟩, (bA a0), (bA a1), (bA a2), (bA a5), (bA a7), ⟨bB⟩⟩
 )
 replace s9 := Bool.eq_false_iff.mpr s9
 subst s9
 rw [if_neg nft] at H
 exact fy HT_l H
 )
 rw [if_neg s8] at H
 exact fy HT_l H
 )
 rw [if_neg s7] at H
 exact fy HT_l H
 )
 rw [if_neg s6] at H
 exact fy HT_l H
 )
 rw [if_neg s5] at H
 exact fy HT_l H
 )
 replace s4 := Bool.eq_false_iff.mpr s4
 subst s4
 rw [if_neg nft] at H
 exact fy HT_l H
 )
 rw [if_neg s3] at H
 exact fy HT_l H
 )
 rw [if_neg s2] at H
 exact fy HT_l H
 )
 replace s1 := Bool.eq_false_iff.mpr s1
 subst s1
 rw [if_neg nft] at H
 exact fy HT_l H
 )
 rw [if_neg s0] at H
 exact fy HT_l H
 )
 replace r9 := Bool.eq_false_iff.mpr r9
 subst r9
 rw [if_neg nft] at H
 exact fy HT_l H
 )
 replace r6 := Bool.eq_false_iff.mpr r6
 subst r6
 rw [if_neg nft] at H
 have H' := Aside0.mk H
 clear H
 repeat (go_not_at_region 32; go_not_at_region 47; first | (with_reducible refine rgl ?_) | go_skip | go_guarded | go_step | go_upon)
 go_meet
 case rel => exact ⟨_, H', ⟨laws_FnBeamsEndOfAll.jx⟩, ⟨oR a9⟩, (bA a0), (bA a1), (bA a2), (bA a5), (bA a7), ⟨bB⟩⟩
 )
 )
 clear r5
 obtain ⟨kq, HA, HJ251, a9, a0, a1, a2, a5, a7, HB⟩ := hcut
 rename_i K_ aK_
 exact aK_ _ _ (hR_ k a0_0 a0_1 a1_0 a1_1 a1_2 a1_3 a2_0 a2_1 a3 a4 r w b5 j1 S5 S6 h3 g5 A0 S9 T0 T1 c3 A1 T4 T5 d4 A2 T8 T9 c4 g8 b9 u129 u130 u131 u132 u133 u134 u135 u136 u137 u138 u139 u140 u141 u142 u143 u144 u145 u146 u147 u148 u149 u150 u151 u152 u153 u154 u155 u156 u157 u158 u159 u160 u161 u162 u163 u164 u165 u166 u167 u168 u169 u170 u171 u172 u173 u174 u175 u176 u177 u178 u179 u180 u181 u182 u183 u184 u185 b0 u29 u30 u31 u32 u33 u34 u187 u188 u189 u190 u191 u192 u193 u194 u195 u196 u197 u198 u199 u200 u201 u202 u203 u204 u205 u206 u207 u208 u209 u210 u211 u212 u213 u214 u215 u216 u217 u218 u219 u220 u221 u222 u223 u224 u225 u226 u227 u228 u229 u230 u231 u232 u233 u234 u235 u236 u237 u238 u239 u240 u241 u242 u243 u244 u245 u246 u247 u248 u249 u250 u251 u252 u253 u254 u255 u256 u257 u258 u259 u260 u261 u262 u263 u264 u265 u266 u267 u268 u269 u270 u271 u272 u273 u274 u275 u276 u277 u278 u279 u280 u281 u282 u283 u284 u285 b8 l5 l6 j2 U7 U8 U9 p4 p5 A6 V0 V1 V2 l7 A7 V3 V4 a8 l8 p6 V5 d1 d2 j3 e7 e8 V6 p8 V7 b7 b2 u340 u341 u342 u343 u344 u345 u346 u347 u348 u349 u350 u351 u352 u353 u354 u355 u356 u357 u358 u359 u360 u361 u362 u363 u364 u365 u366 u367 u368 u369 u370 u371 u372 u373 u374 u375 u376 u377 u378 u379 u380 u381 u382 u383 u384 u385 u386 u387 u388 u389 u390 u391 u392 u393 u394 u395 u396 u397 u398 u399 u400 u401 u402 u403 u404 u405 u406 u407 u408 u409 u410 u411 u412 u413 u414 u415 u416 u417 u418 u419 u420 Z1 wc u10 u59 u60 u61 u62 u63 u64 u65 u66 u67 u68 u422 u423 u424 u425 u426 u427 u428 u429 u430 u431 u432 u433 u434 u435 u436 u437 u438 u439 u440 u441 u442 u443 u444 u445 u446 u447 u448 u449 u450 u451 u452 u453 u454 u455 u456 u457 u458 u459 u460 u461 u462 u463 u464 u465 u466 u467 u468 u469 u470 u471 u472 u473 u474 u475 u476 u477 u478 u479 u480 u481 u482 u483 u484 u485 u486 u487 u488 u489 u490 u491 u492 u493 u494 u495 u496 u497 u498 u499 u500 u501 u502 u503 u504 u505 u506 u507 u508 u509 u510 u511 u512 u513 u514 u515 kq HM HT_l A10 A11 A12 A13 A14 A15 A16 A17 X5 X6 X7 X8 c9 d0 X9 Y0 c1 c2 d7 d8 HJ17 HJ60 a89 a90 a91 a92 a93 a94 a95 a96 a97 a98 bm0 bm1 k1 k2 k3 k4 h5 h6 bm2 bm3 x0 x1 x2 x5 k6 k7 k8 k9 HJ194 HA HJ251 a9 a0 a1 a2 a5 a7 HB)
 )
 )
end Go.Proofs.YtlmiaadpnbehgaaDoor.PFnBeamsEndOfAll
