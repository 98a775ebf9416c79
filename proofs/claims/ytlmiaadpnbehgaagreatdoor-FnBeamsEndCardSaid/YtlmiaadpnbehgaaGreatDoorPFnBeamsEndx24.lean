-- Written by split3.py: the law's walk behind cut 2.
import Derived.Test.YtlmiaadpnbehgaaGreatDoorVM
import Derived.Test.YtlmiaadpnbehgaaGreatDoorVF
import Derived.Test.YtlmiaadpnbehgaaGreatDoorVS
import Derived.Test.YtlmiaadpnbehgaaGreatDoorPFnBeamsEndx0
import Derived.Test.YtlmiaadpnbehgaaGreatDoorPFnBeamsEndx1
import Derived.Test.YtlmiaadpnbehgaaGreatDoorPFnBeamsEndx2
import Derived.Test.YtlmiaadpnbehgaaGreatDoorPFnBeamsEndx3
import Derived.Test.YtlmiaadpnbehgaaGreatDoorPFnBeamsEndx6
import Derived.Test.YtlmiaadpnbehgaaGreatDoorPFnBeamsEndx9
import Derived.Test.YtlmiaadpnbehgaaGreatDoorPFnBeamsEndx13
import Derived.Test.YtlmiaadpnbehgaaGreatDoorPFnBeamsEndx14
import Derived.Test.YtlmiaadpnbehgaaGreatDoorPFnBeamsEndx15
import Derived.Test.YtlmiaadpnbehgaaGreatDoorPFnBeamsEndx16
import Derived.Test.YtlmiaadpnbehgaaGreatDoorPFnBeamsEndx17
import Derived.Test.YtlmiaadpnbehgaaGreatDoorPFnBeamsEndx20
import Derived.Test.YtlmiaadpnbehgaaGreatDoorPFnBeamsEndx21
import Derived.Test.YtlmiaadpnbehgaaGreatDoorPFnBeamsEndx22
namespace Go.Proofs.YtlmiaadpnbehgaaGreatDoor.PFnBeamsEnd
open Go.Proofs.YtlmiaadpnbehgaaGreatDoorV Go.RowKit Go.Proofs.YtlmiaadpnbehgaaGreatDoorW.PrintWords Go.Proofs.YtlmiaadpnbehgaaGreatDoorW.PrintLast Go.Proofs.YtlmiaadpnbehgaaGreatDoorW.PrintMore
attribute [local go_sem] max2_int min2_int max_two min_two max_three min_three max_four min_four   -- for this text's walks alone
attribute [local go_sem ↓] rdl_zero rdl_succ eval_lit
set_option linter.unusedVariables false
set_option linter.unusedSimpArgs false
attribute [local go_sem high] eqA25 eqA27
set_option maxHeartbeats 100000000 in
set_option maxRecDepth 100000 in
theorem laws_FnBeamsEnd.rest2 (hR_ : laws_FnBeamsEnd.RestSaid3) : laws_FnBeamsEnd.RestSaid2 := by
 intro k A0 c0 l0 A1 c1 l1 r w b5 b3 b6 b7 b8 b9 c6 j6 V3 V4 h5 g7 C0 V5 V6 V7 d1 C1 V9 X0 e0 C2 X3 X4 d3 h6 u133 u134 u135 u136 u137 u138 u139 u140 u141 u142 u143 u144 u145 u146 u147 u148 u149 u150 u151 u152 u153 u154 u155 u156 u157 u158 u159 u160 u161 u162 u163 u164 u165 u166 u167 u168 u169 u170 u171 u172 u173 u174 u175 u176 u177 u178 u179 u180 u181 u182 u183 u184 u185 u186 u187 u188 u189 b2 u4 u25 u26 u27 u28 u29 u30 u191 u192 u193 u194 u195 u196 u197 u198 u199 u200 u201 u202 u203 u204 u205 u206 u207 u208 u209 u210 u211 u212 u213 u214 u215 u216 u217 u218 u219 u220 u221 u222 u223 u224 u225 u226 u227 u228 u229 u230 u231 u232 u233 u234 u235 u236 u237 u238 u239 u240 u241 u242 u243 u244 u245 u246 u247 u248 u249 u250 u251 u252 u253 u254 u255 u256 u257 u258 u259 u260 u261 u262 u263 u264 u265 u266 u267 u268 u269 u270 u271 u272 u273 u274 u275 u276 u277 u278 u279 u280 u281 u282 u283 u284 u285 u286 u287 u288 u289 c8 b0 b1 m6 m7 j7 Y2 Y3 Y4 p9 q0 C6 Y5 Y6 Y7 m8 C7 Y8 Y9 h7 a8 m9 q1 Z0 h8 d7 d8 j8 g3 g4 Z1 d6 q3 Z2 c9 c2 wc u350 u351 u352 u353 u354 u355 u356 u357 u358 u359 u360 u361 u362 u363 u364 u365 u366 u367 u368 u369 u370 u371 u372 u373 u374 u375 u376 u377 u378 u379 u380 u381 u382 u383 u384 u385 u386 u387 u388 u389 u390 u391 u392 u393 u394 u395 u396 u397 u398 u399 u400 u401 u402 u403 u404 u405 u406 u407 u408 u409 u410 u411 u412 u413 u414 u415 u416 u417 u418 u419 u420 u421 u422 u423 u424 u425 u426 u427 u428 u429 u430 kq h9 HM V1 V2 x4 x5 HT_l A3 A5 A6 A7 A8 A9 A10 A11 A12 A13 bd7 bd8 bd9 be0 e3 e4 HJ13 HJ54 a99 aa0 aa1 aa2 aa3 aa4 aa5 aa6 aa7 aa8 aa9 ab0 ab1 bl1 bl2 k7 k8 k9 l2 bl3 bl4 l3 l4 l5 l6 i0 i1 bl5 bl6 y2 y3 y4 y5 l7 l8 l9 m0 HA HJ174 a9 a2 a3 a4 a5 a7 HB K1_ aK1_
 conv at aK1_ => enter [a_, w_, 1, 2]; whnf
 conv => enter [2]; whnf
 have bm2 := Tryz.underlying25
 have bm3 := Tryz.underlying27
 (try clear ab2); (try clear ab3); (try clear ab4); (try clear ab5); (try clear ab6); (try clear ab7); (try clear ab8); (try clear ab9); (try clear ac0); (try clear ac1); (try clear ac2); (try clear ac3); (try clear ac4); (try clear ac5); (try clear ac6); (try clear ac7); (try clear ac8); (try clear ac9); (try clear ad0); (try clear ad1); (try clear ad2); (try clear ad3); (try clear ad4); (try clear ad5); (try clear ad6); (try clear ad7); (try clear ad8); (try clear ad9); (try clear ae0); (try clear ae1); (try clear ae2); (try clear ae3); (try clear az7); (try clear az8); (try clear az9); (try clear b00); (try clear b01); (try clear b02); (try clear b03); (try clear b04); (try clear b05); (try clear b06); (try clear b07); (try clear b08); (try clear b09); (try clear b10); (try clear b11); (try clear b12); (try clear b13); (try clear b14)
 cases kq with
 | zero => exact absurd HA.out (by simp [laws_FnBeamsEnd.j3])
 | succ a10 => (
 as_aux_lemma => (
 have H := HA.out
 clear HA
 simp only [laws_FnBeamsEnd.j3] at H
 by_cases r9 : h9 = true
 ·(
 subst r9
 rw [if_pos rfl] at H
 exact fy HT_l H
 )
 replace r9 := Bool.eq_false_iff.mpr r9
 subst r9
 rw [if_neg nft] at H
 have s0 := Aside0.mk H
 clear H
 repeat (go_not_at_if 432; first | (with_reducible refine rgl ?_) | go_skip | go_guarded | go_step | go_upon)
 go_cut [432] from 432 to 432 (fun bo6 wc => ∃ (kq : Nat), Aside0 (laws_FnBeamsEnd.j4 kq h7 a8 m9 h8 j8 d7 d8 = some r) ∧ Aside0 (kq ≤ a10) ∧ Aside0 (Kd.R k25 25 wc w.heap.size (fun k_ => k_ ≠ d3 ∧ k_ ≠ d6 ∧ k_ ≠ c9 ∧ k_ ≠ c2) q3 a8) ∧ Aside0 (wc.heap[d3]? = some (.cells #[.int .i64 b5, .int .i64 b3] 25 (0, 0))) ∧ Aside0 (wc.heap[h6]? = some (.cells #[.int .i64 b6, .int .i64 b7, .bool b8, .bool b9] 27 (0, 0))) ∧ Aside0 (wc.heap[d6]? = some (.cells #[.int .i64 b0, .int .i64 b1] 25 (0, 0))) ∧ Aside0 (wc.heap[c9]? = some (.cells #[.int .i64 d7, .int .i64 d8] 25 (0, 0))) ∧ Aside0 (wc.heap[c2]? = some (.cells #[.int .i64 g3, .int .i64 g4] 25 (0, 0))) ∧ Aside0 (Below w.heap.size w wc))
 case first => (
 as_aux_lemma => (
 have H := s0.out
 clear s0
 by_cases s1 : j7 = true
 ·(
 subst s1
 rw [if_pos rfl] at H
 replace H := Option.bind_eq_some_iff.mp H; obtain ⟨⟨Z6, af1⟩, J5, H⟩ := H; (try dsimp only at H); have af2 := Aside0.mk J5; clear J5
 replace H := Option.bind_eq_some_iff.mp H; obtain ⟨⟨Z7, Z8, af3⟩, J6, H⟩ := H; (try dsimp only at H); have af4 := Aside0.mk J6; clear J6
 replace H := Option.bind_eq_some_iff.mp H; obtain ⟨⟨n0, af5⟩, J7, H⟩ := H; (try dsimp only at H); have af6 := Aside0.mk J7; clear J7
 replace H := Option.bind_eq_some_iff.mp H; obtain ⟨⟨s2, s3, af7⟩, J8, H⟩ := H; (try dsimp only at H); have af8 := Aside0.mk J8; clear J8
 by_cases s4 : af1 = true
 ·(
 subst s4
 rw [if_pos rfl] at H
 by_cases s5 : Z6 = (wrap64 (m6 + m7))
 ·(
 rw [if_pos s5] at H
 obtain ⟨y7, b49⟩ := yE s5
 clear s5
 (first | rw [y7] | (simp only [i64_w, i32_w]; rw [y7]) | skip)
 by_cases s6 : af3 = true
 ·(
 subst s6
 rw [if_pos rfl] at H
 by_cases s7 : Z7 = p9
 ·(
 rw [if_pos s7] at H
 obtain ⟨b50, b51⟩ := yE s7
 clear s7
 by_cases s8 : Z8 = q0
 ·(
 rw [if_pos s8] at H
 obtain ⟨b52, b53⟩ := yE s8
 clear s8
 by_cases s9 : af5 = true
 ·(
 subst s9
 rw [if_pos rfl] at H
 by_cases C9 : b0 = 0
 ·(
 rw [if_pos C9] at H
 exact absurd H (by simp)
 )
 rw [if_neg C9] at H
 obtain ⟨b54, b55⟩ := nE C9
 by_cases uz0 : (Int.tmod n0 b0) = 0
 ·(
 rw [if_pos uz0] at H
 obtain ⟨b56, b57⟩ := yE uz0
 clear uz0
 by_cases D0 : b1 = 0
 ·(
 rw [if_pos D0] at H
 exact absurd H (by simp)
 )
 rw [if_neg D0] at H
 obtain ⟨b58, b59⟩ := nE D0
 by_cases uz1 : (Int.tmod n0 b1) = 0
 ·(
 rw [if_pos uz1] at H
 obtain ⟨b60, b61⟩ := yE uz1
 clear uz1
 by_cases uz2 : (wrap64 (Int.tdiv n0 b0)) = (wrap64 (m6 + 1))
 ·(
 rw [if_pos uz2] at H
 obtain ⟨b62, b63⟩ := yE uz2
 clear uz2
 by_cases uz3 : (wrap64 (Int.tdiv n0 b1)) = (wrap64 (m7 + 1))
 ·(
 rw [if_pos uz3] at H
 obtain ⟨b64, b65⟩ := yE uz3
 clear uz3
 by_cases uz4 : af7 = true
 ·(
 subst uz4
 rw [if_pos rfl] at H
 by_cases uz5 : (!(s2 == b0) || (!(s3 == b1))) = true
 ·(
 rw [if_pos uz5] at H
 exact fy HT_l H
 )
 rw [if_neg uz5] at H
 have b66 : (!(s2 == b0) || (!(s3 == b1))) = false := by simpa using uz5
 clear uz5
 have H' := Aside0.mk H
 clear H
 repeat (go_not_at_region 36; go_not_at_region 51; first | ((with_reducible refine gate_dst (N := 58) rfl ?_); (try (refine gate_guard (by rfl) ?_; dsimp only)); refine box_ (cs := #[.int .i64 0, .int .i64 0, .bool false, .bool false]) (t := 27) fun m1 hg bo7 hbox hb => ?_; have d2 := Aside0.mk (hbox); have bl7 := bS HB hg; have bl8 := bS HB hg; have y8 := bL a2 hg; have y9 := bM a2 hg; have z2 := bL a3 hg; have z3 := bM a3 hg; have z4 := bL a4 hg; have z5 := bM a4 hg; have z6 := bL a5 hg; have z7 := bM a5 hg; have z8 := bL a7 hg; have z9 := bM a7 hg; replace a9 := Aside0.mk (Kd.R_below (oR a9) hb); replace a2 := bQ a2 hb; replace a3 := bQ a3 hb; replace a4 := bQ a4 hb; replace a5 := bQ a5 hb; replace a7 := bQ a7 hb; replace HB := Aside0.mk (below_step bB hb); clear hb hbox hg; have b67 := y9.out; have b68 := y8.out; have b69 := z3.out; have b70 := z2.out; have b71 := z5.out; have b72 := z4.out; have b73 := z7.out; have b74 := z6.out; have b75 := z9.out; have b76 := z8.out; obtain ⟨af9, ag0, ag1, ag2, ag3, ag4, ag5, ag6⟩ := cf4 d2; have b77 := k8.out; have b78 := k7.out; have b79 := l2.out; have b80 := k9.out; have b81 := i0.out; have b82 := i1.out; have b83 := l7.out; have b84 := l8.out; obtain ⟨ag7, ag8, ag9, ah0⟩ := cf2 a4) | ((with_reducible refine gate_callee (f := 10) rfl ?_); refine goesL_ (some 437) rfl rfl Tryz.func10 kr rfl #[.agg #[.int .i64 b0, .int .i64 b1], .agg #[.int .i64 0, .int .i64 0, .bool true, .bool true]] rfl sM ?_; (with_reducible refine (impl_BouncesToCorner.calls b0 b1 0 0 true true Z6 true _ af2.out).mono ?_); rintro e bo8 ⟨rfl, hb⟩; refine ⟨_, rfl, ?_⟩; replace a9 := Aside0.mk (Kd.R_below (by (with_reducible repeat (first | apply Kd.R_alloc | apply Kd.R_drewN | apply Kd.R_drew)); exact (Kd.R_mono (Kd.R_far (p := ⟨m1, 3, none⟩) (Kd.R_far (p := ⟨m1, 2, none⟩) (Kd.R_far (p := ⟨m1, 1, none⟩) (Kd.R_far (p := ⟨m1, 0, none⟩) (Kd.R_types a9.out d2.out (by decide)) (fun _ hk => hk.2) (.int .i64 0)) (fun _ hk => hk.2) (.int .i64 0)) (fun _ hk => hk.2) (.bool true)) (fun _ hk => hk.2) (.bool true)) (fun _ h_ => h_.1))) hb); replace a2 := bQ a2 hb; replace a3 := bQ a3 hb; replace a4 := bQ a4 hb; replace a5 := bQ a5 hb; replace a7 := bQ a7 hb; replace d2 := (bP (.cells #[.int .i64 0, .int .i64 0, .bool true, .bool true] 27 (0, 0)) d2 hb); replace HB := Aside0.mk (below_step bB hb); (try clear hb); (try clear hk); obtain ⟨ah1, ah2, ah3, ah4⟩ := cf2 a4; obtain ⟨ah5, ah6, ah7, ah8, ah9, ai0, ai1, ai2⟩ := cf4 d2) | ((with_reducible refine gate_callee (f := 8) rfl ?_); refine goesL_ (some 443) rfl rfl Tryz.func8 kr rfl #[.agg #[.int .i64 b0, .int .i64 b1], .agg #[.int .i64 0, .int .i64 0, .bool true, .bool true]] rfl sM ?_; (with_reducible refine (impl_CornerOf.calls b0 b1 0 0 true true Z7 Z8 true _ af4.out).mono ?_); rintro e bo9 ⟨rfl, hb⟩; refine ⟨_, rfl, ?_⟩; replace a9 := Aside0.mk (Kd.R_below (oR a9) hb); replace a2 := bQ a2 hb; replace a3 := bQ a3 hb; replace a4 := bQ a4 hb; replace a5 := bQ a5 hb; replace a7 := bQ a7 hb; replace d2 := bQ d2 hb; replace HB := Aside0.mk (below_step bB hb); (try clear hb); obtain ⟨ai3, ai4, ai5, ai6⟩ := cf2 a4; obtain ⟨ai7, ai8, ai9, aj0, aj1, aj2, aj3, aj4⟩ := cf4 d2) | ((with_reducible refine gate_callee (f := 6) rfl ?_); refine goesL_ (some 450) rfl rfl Tryz.func6 kr rfl #[.agg #[.int .i64 b0, .int .i64 b1], .agg #[.int .i64 0, .int .i64 0, .bool true, .bool true]] rfl sM ?_; (with_reducible refine (impl_StepsToCorner.calls b0 b1 0 0 true true n0 true _ af6.out).mono ?_); rintro e bp0 ⟨rfl, hb⟩; refine ⟨_, rfl, ?_⟩; replace a9 := Aside0.mk (Kd.R_below (oR a9) hb); replace a2 := bQ a2 hb; replace a3 := bQ a3 hb; replace a4 := bQ a4 hb; replace a5 := bQ a5 hb; replace a7 := bQ a7 hb; replace d2 := bQ d2 hb; replace HB := Aside0.mk (below_step bB hb); (try clear hb)) | ((with_reducible refine gate_callee (f := 27) rfl ?_); refine goesL_ (some 455) rfl rfl Tryz.func27 kr rfl #[.string m8] rfl sM ?_; (with_reducible refine (impl_ParseTable.calls m8 s2 s3 true _ af8.out (HM.out.below (by repeat (first | (with_reducible first | exact HB.out | apply below_alloc | apply pw_below_drewN | apply below_drew1 | refine below_set ?_ (Aside0.out (by assumption))) | exact HB.out)))).mono ?_); rintro e bp1 ⟨rfl, hb⟩; refine ⟨_, rfl, ?_⟩; replace a9 := Aside0.mk (Kd.R_below (oR a9) hb); replace a2 := bQ a2 hb; replace a3 := bQ a3 hb; replace a4 := bQ a4 hb; replace a5 := bQ a5 hb; replace a7 := bQ a7 hb; replace d2 := bQ d2 hb; replace HB := Aside0.mk (below_step bB hb); (try clear hb)) | ((with_reducible refine gate_dst (N := 66) rfl ?_); (try (refine gate_guard (by rfl) ?_; dsimp only)); refine box_ (cs := #[.int .i64 0, .int .i64 0]) (t := 25) fun m2 hg bp2 hbox hb => ?_; have a11 := Aside0.mk (hbox); have bl9 := bS HB hg; have bm0 := bS HB hg; have A2 := bL a2 hg; have A4 := bM a2 hg; have B0 := bL a3 hg; have B1 := bM a3 hg; have B2 := bL a4 hg; have B3 := bM a4 hg; have B4 := bL a5 hg; have B5 := bM a5 hg; have B6 := bL a7 hg; have B7 := bM a7 hg; have B8 := bL d2 hg; have B9 := bM d2 hg; replace a9 := Aside0.mk (Kd.R_below (Kd.R_elderB (oR a9) m2 (Nat.le_of_eq hg.symm)) hb); replace a2 := bQ a2 hb; replace a3 := bQ a3 hb; replace a4 := bQ a4 hb; replace a5 := bQ a5 hb; replace a7 := bQ a7 hb; replace d2 := bQ d2 hb; replace HB := Aside0.mk (below_step bB hb); clear hb hbox hg; have b85 := A4.out; have b86 := A2.out; have b87 := B1.out; have b88 := B0.out; have b89 := B3.out; have b90 := B2.out; have b91 := B5.out; have b92 := B4.out; have b93 := B7.out; have b94 := B6.out; have b95 := B9.out; have b96 := B8.out; obtain ⟨aj5, aj6, aj7, aj8⟩ := cf2 a11; obtain ⟨aj9, ak0, ak1, ak2⟩ := cf2 a4) | (with_reducible refine rgl ?_) | go_skip | go_guarded | go_step | go_upon)
 go_meet
 case rel => exact ⟨_, H', ⟨laws_FnBeamsEnd.jx⟩, ⟨by (with_reducible repeat (first | apply Kd.R_alloc | apply Kd.R_drewN | apply Kd.R_drew)); exact Kd.R_mono (Kd.R_far (p := ⟨m2, 1, none⟩) (Kd.R_far (p := ⟨m2, 0, none⟩) (Kd.R_mono a9.out (fun k_ hk => (⟨hk, hk.2⟩ : _ ∧ k_ ≠ m2))) (fun _ hk => hk.2) (.int .i64 s2)) (fun _ hk => hk.2) (.int .i64 s3)) (fun _ hk => ⟨hk.1.1.1, ⟨hk.1.1.2.1, ⟨hk.1.1.2.2.1, hk.1.1.2.2.2⟩⟩⟩)⟩, (bA a2), (bA a3), (bA a4), (bA a5), (bA a7), ⟨bB⟩⟩
 )
 replace uz4 := Bool.eq_false_iff.mpr uz4
 subst uz4
 rw [if_neg nft] at H
 exact fy HT_l H
 )
 rw [if_neg uz3] at H
 exact fy HT_l H
 )
 rw [if_neg uz2] at H
 exact fy HT_l H
 )
 rw [if_neg uz1] at H
 exact fy HT_l H
 )
 rw [if_neg uz0] at H
 exact fy HT_l H
 )
 replace s9 := Bool.eq_false_iff.mpr s9
 subst s9
 rw [if_neg nft] at H
 exact fy HT_l H
 )
 rw [if_neg s8] at H
 exact fy HT_l H
 )
 rw [if_neg s7] at H
 exact fy HT_l H
 )
 replace s6 := Bool.eq_false_iff.mpr s6
 subst s6
 rw [if_neg nft] at H
 exact fy HT_l H
 )
 rw [if_neg s5] at H
 exact fy HT_l H
 )
 replace s4 := Bool.eq_false_iff.mpr s4
 subst s4
 rw [if_neg nft] at H
 exact fy HT_l H
 )
 replace s1 := Bool.eq_false_iff.mpr s1
 subst s1
 rw [if_neg nft] at H
 have H' := Aside0.mk H
 clear H
 repeat (go_not_at_region 36; go_not_at_region 51; first | (with_reducible refine rgl ?_) | go_skip | go_guarded | go_step | go_upon)
 go_meet
 case rel => exact ⟨_, H', ⟨laws_FnBeamsEnd.jx⟩, ⟨oR a9⟩, (bA a2), (bA a3), (bA a4), (bA a5), (bA a7), ⟨bB⟩⟩
 )
 )
 clear s0
 obtain ⟨kq, HA, HJ235, a9, a2, a3, a4, a5, a7, HB⟩ := hcut
 rename_i K_ aK_
 exact aK_ _ _ (hR_ k A0 c0 l0 A1 c1 l1 r w b5 b3 b6 b7 b8 b9 c6 j6 V3 V4 h5 g7 C0 V5 V6 V7 d1 C1 V9 X0 e0 C2 X3 X4 d3 h6 u133 u134 u135 u136 u137 u138 u139 u140 u141 u142 u143 u144 u145 u146 u147 u148 u149 u150 u151 u152 u153 u154 u155 u156 u157 u158 u159 u160 u161 u162 u163 u164 u165 u166 u167 u168 u169 u170 u171 u172 u173 u174 u175 u176 u177 u178 u179 u180 u181 u182 u183 u184 u185 u186 u187 u188 u189 b2 u25 u26 u27 u28 u29 u30 u191 u192 u193 u194 u195 u196 u197 u198 u199 u200 u201 u202 u203 u204 u205 u206 u207 u208 u209 u210 u211 u212 u213 u214 u215 u216 u217 u218 u219 u220 u221 u222 u223 u224 u225 u226 u227 u228 u229 u230 u231 u232 u233 u234 u235 u236 u237 u238 u239 u240 u241 u242 u243 u244 u245 u246 u247 u248 u249 u250 u251 u252 u253 u254 u255 u256 u257 u258 u259 u260 u261 u262 u263 u264 u265 u266 u267 u268 u269 u270 u271 u272 u273 u274 u275 u276 u277 u278 u279 u280 u281 u282 u283 u284 u285 u286 u287 u288 u289 c8 b0 b1 m6 m7 j7 Y2 Y3 Y4 p9 q0 C6 Y5 Y6 Y7 m8 C7 Y8 Y9 h7 a8 m9 q1 Z0 h8 d7 d8 j8 g3 g4 Z1 d6 q3 Z2 c9 c2 u350 u351 u352 u353 u354 u355 u356 u357 u358 u359 u360 u361 u362 u363 u364 u365 u366 u367 u368 u369 u370 u371 u372 u373 u374 u375 u376 u377 u378 u379 u380 u381 u382 u383 u384 u385 u386 u387 u388 u389 u390 u391 u392 u393 u394 u395 u396 u397 u398 u399 u400 u401 u402 u403 u404 u405 u406 u407 u408 u409 u410 u411 u412 u413 u414 u415 u416 u417 u418 u419 u420 u421 u422 u423 u424 u425 u426 u427 u428 u429 u430 a10 wc u4 u58 u59 u60 u61 u62 u63 u64 u65 u66 u67 u432 u433 u434 u435 u436 u437 u438 u439 u440 u441 u442 u443 u444 u445 u446 u447 u448 u449 u450 u451 u452 u453 u454 u455 u456 u457 u458 u459 u460 u461 u462 u463 u464 u465 u466 u467 u468 u469 u470 u471 u472 u473 u474 u475 u476 u477 u478 u479 u480 u481 u482 u483 u484 u485 u486 u487 u488 u489 u490 u491 u492 u493 u494 u495 u496 u497 u498 u499 u500 u501 u502 u503 u504 u505 u506 u507 u508 u509 u510 u511 u512 u513 u514 u515 u516 u517 u518 u519 u520 u521 u522 u523 u524 u525 kq HM V1 V2 x4 x5 HT_l A3 A5 A6 A7 A8 A9 A10 A11 A12 A13 bd7 bd8 bd9 be0 e3 e4 HJ13 HJ54 a99 aa0 aa1 aa2 aa3 aa4 aa5 aa6 aa7 aa8 aa9 ab0 ab1 bl1 bl2 k7 k8 k9 l2 bl3 bl4 l3 l4 l5 l6 i0 i1 bl5 bl6 y2 y3 y4 y5 l7 l8 l9 m0 HJ174 HA HJ235 a9 a2 a3 a4 a5 a7 HB)
 )
 )
end Go.Proofs.YtlmiaadpnbehgaaGreatDoor.PFnBeamsEnd
