-- Written by split3.py: the law's walk behind cut 1.
import Derived.Test.YtlmiaadpnbehgaaDoorVM
import Derived.Test.YtlmiaadpnbehgaaDoorVF
import Derived.Test.YtlmiaadpnbehgaaDoorVS
import Derived.Test.YtlmiaadpnbehgaaDoorPFnBeamsEndOfAllx0
import Derived.Test.YtlmiaadpnbehgaaDoorPFnBeamsEndOfAllx1
import Derived.Test.YtlmiaadpnbehgaaDoorPFnBeamsEndOfAllx2
import Derived.Test.YtlmiaadpnbehgaaDoorPFnBeamsEndOfAllx3
import Derived.Test.YtlmiaadpnbehgaaDoorPFnBeamsEndOfAllx6
import Derived.Test.YtlmiaadpnbehgaaDoorPFnBeamsEndOfAllx10
import Derived.Test.YtlmiaadpnbehgaaDoorPFnBeamsEndOfAllx11
import Derived.Test.YtlmiaadpnbehgaaDoorPFnBeamsEndOfAllx12
import Derived.Test.YtlmiaadpnbehgaaDoorPFnBeamsEndOfAllx13
import Derived.Test.YtlmiaadpnbehgaaDoorPFnBeamsEndOfAllx14
import Derived.Test.YtlmiaadpnbehgaaDoorPFnBeamsEndOfAllx15
import Derived.Test.YtlmiaadpnbehgaaDoorPFnBeamsEndOfAllx17
import Derived.Test.YtlmiaadpnbehgaaDoorPFnBeamsEndOfAllx18
import Derived.Test.YtlmiaadpnbehgaaDoorPFnBeamsEndOfAllx19
namespace Go.Proofs.YtlmiaadpnbehgaaDoor.PFnBeamsEndOfAll
open Go.Proofs.YtlmiaadpnbehgaaDoorV Go.RowKit Go.Proofs.YtlmiaadpnbehgaaDoorW.PrintWords Go.Proofs.YtlmiaadpnbehgaaDoorW.PrintLast Go.Proofs.YtlmiaadpnbehgaaDoorW.PrintMore
attribute [local go_sem] max2_int min2_int max_two min_two max_three min_three max_four min_four   -- for this text's walks alone
attribute [local go_sem ↓] rdl_zero rdl_succ eval_lit
set_option linter.unusedVariables false
set_option linter.unusedSimpArgs false
attribute [local go_sem high] eqA23 eqA25
set_option maxHeartbeats 100000000 in
set_option maxRecDepth 100000 in
theorem laws_FnBeamsEndOfAll.rest1 (hR_ : laws_FnBeamsEndOfAll.RestSaid2) : laws_FnBeamsEndOfAll.RestSaid1 := by
 intro k a0_0 a0_1 a1_0 a1_1 a1_2 a1_3 a2_0 a2_1 a3 a4 r w b5 j1 S5 S6 h3 g5 A0 S9 T0 T1 c3 A1 T4 T5 d4 A2 T8 T9 c4 g8 b9 u129 u130 u131 u132 u133 u134 u135 u136 u137 u138 u139 u140 u141 u142 u143 u144 u145 u146 u147 u148 u149 u150 u151 u152 u153 u154 u155 u156 u157 u158 u159 u160 u161 u162 u163 u164 u165 u166 u167 u168 u169 u170 u171 u172 u173 u174 u175 u176 u177 u178 u179 u180 u181 u182 u183 u184 u185 b0 wc u10 u29 u30 u31 u32 u33 u34 u187 u188 u189 u190 u191 u192 u193 u194 u195 u196 u197 u198 u199 u200 u201 u202 u203 u204 u205 u206 u207 u208 u209 u210 u211 u212 u213 u214 u215 u216 u217 u218 u219 u220 u221 u222 u223 u224 u225 u226 u227 u228 u229 u230 u231 u232 u233 u234 u235 u236 u237 u238 u239 u240 u241 u242 u243 u244 u245 u246 u247 u248 u249 u250 u251 u252 u253 u254 u255 u256 u257 u258 u259 u260 u261 u262 u263 u264 u265 u266 u267 u268 u269 u270 u271 u272 u273 u274 u275 u276 u277 u278 u279 u280 u281 u282 u283 u284 u285 kq HM HT_l A10 A11 A12 A13 A14 A15 A16 A17 X5 X6 X7 X8 c9 d0 X9 Y0 c1 c2 d7 d8 HJ17 HA HJ60 a0 a1 a2 HB
 conv => enter [2]; whnf
 have bm9 := Tryd.underlying23
 have bn0 := Tryd.underlying25
 cases kq with
 | zero => exact absurd HA.out (by simp [laws_FnBeamsEndOfAll.j2])
 | succ b8 => (
 as_aux_lemma => (
 have H := HA.out
 clear HA
 simp only [laws_FnBeamsEndOfAll.j2] at H
 replace H := Option.bind_eq_some_iff.mp H; obtain ⟨⟨l5, l6, j2⟩, E0, H⟩ := H; (try dsimp only at H); have a89 := Aside0.mk E0; clear E0
 replace H := Option.bind_eq_some_iff.mp H; obtain ⟨⟨U7, U8, U9⟩, E1, H⟩ := H; (try dsimp only at H); have a90 := Aside0.mk E1; clear E1
 replace H := Option.bind_eq_some_iff.mp H; obtain ⟨⟨p4, p5, A6⟩, E2, H⟩ := H; (try dsimp only at H); have a91 := Aside0.mk E2; clear E2
 replace H := Option.bind_eq_some_iff.mp H; obtain ⟨⟨V0, V1, V2⟩, E3, H⟩ := H; (try dsimp only at H); have a92 := Aside0.mk E3; clear E3
 replace H := Option.bind_eq_some_iff.mp H; obtain ⟨⟨l7, A7⟩, E4, H⟩ := H; (try dsimp only at H); have a93 := Aside0.mk E4; clear E4
 replace H := Option.bind_eq_some_iff.mp H; obtain ⟨⟨V3, V4⟩, E5, H⟩ := H; (try dsimp only at H); have a94 := Aside0.mk E5; clear E5
 replace H := Option.bind_eq_some_iff.mp H; obtain ⟨⟨a8, l8⟩, E6, H⟩ := H; (try dsimp only at H); have a95 := Aside0.mk E6; clear E6
 replace H := Option.bind_eq_some_iff.mp H; obtain ⟨⟨p6, V5⟩, E7, H⟩ := H; (try dsimp only at H); have a96 := Aside0.mk E7; clear E7
 replace H := Option.bind_eq_some_iff.mp H; obtain ⟨⟨d1, d2, j3⟩, E8, H⟩ := H; (try dsimp only at H); have a97 := Aside0.mk E8; clear E8
 replace H := Option.bind_eq_some_iff.mp H; obtain ⟨⟨e7, e8, V6⟩, E9, H⟩ := H; (try dsimp only at H); have a98 := Aside0.mk E9; clear E9
 have p7 := Aside0.mk H
 clear H
 have b09 := c2.out
 have b10 := c1.out
 have b11 := d8.out
 have b12 := d7.out
 obtain ⟨a99, aa0, aa1, aa2⟩ := cf2 a2
 go_upto_region 32 with (first | ((with_reducible refine gate_callee (f := 14) rfl ?_); refine goesL_ (some 288) rfl rfl Tryd.func14 kr rfl #[.agg #[.int .i64 a2_0, .int .i64 a2_1]] rfl sM ?_; (with_reducible refine (impl_MainBounces.calls b8 a2_0 a2_1 l5 l6 j2 _ a89.out).mono ?_); rintro e bn4 ⟨rfl, hb⟩; refine ⟨_, rfl, ?_⟩; replace a0 := bQ a0 hb; replace a1 := bQ a1 hb; replace a2 := bQ a2 hb; replace HB := Aside0.mk (below_step bB hb); (try clear hb); obtain ⟨aa3, aa4, aa5, aa6⟩ := cf2 a2) | ((with_reducible refine gate_callee (f := 15) rfl ?_); refine goesL_ (some 294) rfl rfl Tryd.func15 kr rfl #[.agg #[.int .i64 a2_0, .int .i64 a2_1]] rfl sM ?_; (with_reducible refine (spec_MainBounces.calls b8 a2_0 a2_1 U7 U8 U9 _ a90.out).mono ?_); rintro e bn5 ⟨rfl, hb⟩; refine ⟨_, rfl, ?_⟩; replace a0 := bQ a0 hb; replace a1 := bQ a1 hb; replace a2 := bQ a2 hb; replace HB := Aside0.mk (below_step bB hb); (try clear hb); obtain ⟨aa7, aa8, aa9, ab0⟩ := cf2 a2) | ((with_reducible refine gate_callee (f := 16) rfl ?_); refine goesL_ (some 300) rfl rfl Tryd.func16 kr rfl #[.agg #[.int .i64 a2_0, .int .i64 a2_1]] rfl sM ?_; (with_reducible refine (impl_MainCorner.calls b8 a2_0 a2_1 p4 p5 A6 _ a91.out).mono ?_); rintro e bn6 ⟨rfl, hb⟩; refine ⟨_, rfl, ?_⟩; replace a0 := bQ a0 hb; replace a1 := bQ a1 hb; replace a2 := bQ a2 hb; replace HB := Aside0.mk (below_step bB hb); (try clear hb); obtain ⟨ab1, ab2, ab3, ab4⟩ := cf2 a2) | ((with_reducible refine gate_callee (f := 17) rfl ?_); refine goesL_ (some 306) rfl rfl Tryd.func17 kr rfl #[.agg #[.int .i64 a2_0, .int .i64 a2_1]] rfl sM ?_; (with_reducible refine (spec_MainCorner.calls b8 a2_0 a2_1 V0 V1 V2 _ a92.out).mono ?_); rintro e bn7 ⟨rfl, hb⟩; refine ⟨_, rfl, ?_⟩; replace a0 := bQ a0 hb; replace a1 := bQ a1 hb; replace a2 := bQ a2 hb; replace HB := Aside0.mk (below_step bB hb); (try clear hb); obtain ⟨ab5, ab6, ab7, ab8⟩ := cf2 a2) | ((with_reducible refine gate_callee (f := 18) rfl ?_); refine goesL_ (some 312) rfl rfl Tryd.func18 kr rfl #[.agg #[.int .i64 a2_0, .int .i64 a2_1]] rfl sM ?_; (with_reducible refine (impl_TableText.calls a2_0 a2_1 l7 A7 _ a93.out (HM.out.below (by repeat (first | (with_reducible first | exact HB.out | apply below_alloc | apply pw_below_drewN | apply below_drew1 | refine below_set ?_ (Aside0.out (by assumption))) | exact HB.out)))).mono ?_); rintro e bn8 ⟨rfl, hb⟩; refine ⟨_, rfl, ?_⟩; replace a0 := bQ a0 hb; replace a1 := bQ a1 hb; replace a2 := bQ a2 hb; replace HB := Aside0.mk (below_step bB hb); (try clear hb); obtain ⟨ab9, ac0, ac1, ac2⟩ := cf2 a2) | ((with_reducible refine gate_callee (f := 19) rfl ?_); refine goesL_ (some 317) rfl rfl Tryd.func19 kr rfl #[.agg #[.int .i64 a2_0, .int .i64 a2_1]] rfl sM ?_; (with_reducible refine (spec_TableText.calls b8 a2_0 a2_1 V3 V4 _ a94.out).mono ?_); rintro e bn9 ⟨rfl, hb⟩; refine ⟨_, rfl, ?_⟩; replace a0 := bQ a0 hb; replace a1 := bQ a1 hb; replace a2 := bQ a2 hb; replace HB := Aside0.mk (below_step bB hb); (try clear hb)) | ((with_reducible refine gate_callee (f := 20) rfl ?_); refine goesL_ (some 322) rfl rfl Tryd.func20 kr rfl #[.int .i64 a3] rfl sM ?_; (with_reducible refine (impl_TablesFor.calls b8 a3 a8 l8 _ a95.out).mono ?_); rintro e bo0 ⟨p8, rfl, m1, hb⟩; refine ⟨_, rfl, ?_⟩; have b1 := Aside0.mk (Kd.R_lower (Kd.R_newB (Kd.R_newB m1 (g := c4) (o := .cells #[.int .i64 a0_0, .int .i64 a0_1] 23 (0, 0)) (bK a0)) (g := b9) (o := .cells #[.int .i64 a2_0, .int .i64 a2_1] 23 (0, 0)) (bK a2)) (below_size bB)); replace a0 := bQ a0 hb; replace a1 := bQ a1 hb; replace a2 := bQ a2 hb; replace HB := Aside0.mk (below_step bB hb); (try clear hb); (try clear m1)) | ((with_reducible refine gate_callee (f := 21) rfl ?_); refine goesL_ (some 327) rfl rfl Tryd.func21 kr rfl #[.int .i64 a3] rfl sM ?_; (with_reducible refine (spec_TablesFor.calls b8 a3 p6 V5 _ a96.out).mono ?_); rintro e bo1 ⟨V7, rfl, m1, hb⟩; refine ⟨_, rfl, ?_⟩; have b3 := Aside0.mk (Kd.R_lower (Kd.R_newB (Kd.R_newB (Kd.R_new' m1 (Kd.R_lt (oR b1))) (g := c4) (o := .cells #[.int .i64 a0_0, .int .i64 a0_1] 23 (0, 0)) (bK a0)) (g := b9) (o := .cells #[.int .i64 a2_0, .int .i64 a2_1] 23 (0, 0)) (bK a2)) (below_size bB)); replace b1 := Aside0.mk (Kd.R_elder' (oR b1) (Kd.R_base m1) hb); replace a0 := bQ a0 hb; replace a1 := bQ a1 hb; replace a2 := bQ a2 hb; replace HB := Aside0.mk (below_step bB hb); (try clear hb); (try clear m1)) | ((with_reducible refine gate_callee (f := 22) rfl ?_); refine goesL_ (some 332) rfl rfl Tryd.func22 kr rfl #[.string a4] rfl sM ?_; (with_reducible refine (impl_ParseTable.calls a4 d1 d2 j3 _ a97.out (HM.out.below (by repeat (first | (with_reducible first | exact HB.out | apply below_alloc | apply pw_below_drewN | apply below_drew1 | refine below_set ?_ (Aside0.out (by assumption))) | exact HB.out)))).mono ?_); rintro e bo2 ⟨rfl, hb⟩; refine ⟨_, rfl, ?_⟩; replace b1 := Aside0.mk (Kd.R_below (oR b1) hb); replace b3 := Aside0.mk (Kd.R_below (oR b3) hb); replace a0 := bQ a0 hb; replace a1 := bQ a1 hb; replace a2 := bQ a2 hb; replace HB := Aside0.mk (below_step bB hb); (try clear hb)) | ((with_reducible refine gate_dst (N := 55) rfl ?_); (try (refine gate_guard (by rfl) ?_; dsimp only)); refine box_ (cs := #[.int .i64 0, .int .i64 0]) (t := 23) fun b7 hg bo3 hbox hb => ?_; have a5 := Aside0.mk (hbox); have bm0 := bS HB hg; have bm1 := bS HB hg; have k1 := bL a0 hg; have k2 := bM a0 hg; have k3 := bL a1 hg; have k4 := bM a1 hg; have h5 := bL a2 hg; have h6 := bM a2 hg; replace b1 := Aside0.mk (Kd.R_below (Kd.R_elderB (oR b1) b7 (Nat.le_of_eq hg.symm)) hb); replace b3 := Aside0.mk (Kd.R_below (Kd.R_elderB (oR b3) b7 (Nat.le_of_eq hg.symm)) hb); replace a0 := bQ a0 hb; replace a1 := bQ a1 hb; replace a2 := bQ a2 hb; replace HB := Aside0.mk (below_step bB hb); clear hb hbox hg; have b13 := k2.out; have b14 := k1.out; have b15 := k4.out; have b16 := k3.out; have b17 := h6.out; have b18 := h5.out; obtain ⟨ac3, ac4, ac5, ac6⟩ := cf2 a5) | ((with_reducible refine gate_callee (f := 23) rfl ?_); refine goesL_ (some 337) rfl rfl Tryd.func23 kr rfl #[.string a4] rfl sM ?_; (with_reducible refine (spec_ParseTable.calls b8 a4 e7 e8 V6 _ a98.out).mono ?_); rintro e bo4 ⟨rfl, hb⟩; refine ⟨_, rfl, ?_⟩; replace b1 := Aside0.mk (Kd.R_below (by (with_reducible repeat (first | apply Kd.R_alloc | apply Kd.R_drewN | apply Kd.R_drew)); exact (Kd.R_mono (Kd.R_far (p := ⟨b7, 1, none⟩) (Kd.R_far (p := ⟨b7, 0, none⟩) (Kd.R_mono b1.out (fun k_ hk => (⟨hk, hk.2⟩ : _ ∧ k_ ≠ b7))) (fun _ hk => hk.2) (.int .i64 d1)) (fun _ hk => hk.2) (.int .i64 d2)) (fun _ h_ => h_.1))) hb); replace b3 := Aside0.mk (Kd.R_below (by (with_reducible repeat (first | apply Kd.R_alloc | apply Kd.R_drewN | apply Kd.R_drew)); exact (Kd.R_mono (Kd.R_far (p := ⟨b7, 1, none⟩) (Kd.R_far (p := ⟨b7, 0, none⟩) (Kd.R_mono b3.out (fun k_ hk => (⟨hk, hk.2⟩ : _ ∧ k_ ≠ b7))) (fun _ hk => hk.2) (.int .i64 d1)) (fun _ hk => hk.2) (.int .i64 d2)) (fun _ h_ => h_.1))) hb); replace a0 := bQ a0 hb; replace a1 := bQ a1 hb; replace a2 := bQ a2 hb; replace a5 := (bP (.cells #[.int .i64 d1, .int .i64 d2] 23 (0, 0)) a5 hb); replace HB := Aside0.mk (below_step bB hb); (try clear hb); (try clear hk)) | ((with_reducible refine gate_dst (N := 57) rfl ?_); (try (refine gate_guard (by rfl) ?_; dsimp only)); refine box_ (cs := #[.int .i64 0, .int .i64 0]) (t := 23) fun b2 hg A8 hbox hb => ?_; have a7 := Aside0.mk (hbox); have bm2 := bS HB hg; have bm3 := bS HB hg; have x0 := bL a0 hg; have x1 := bM a0 hg; have x2 := bL a1 hg; have x5 := bM a1 hg; have k6 := bL a2 hg; have k7 := bM a2 hg; have k8 := bL a5 hg; have k9 := bM a5 hg; replace b1 := Aside0.mk (Kd.R_below (Kd.R_elderB (oR b1) b2 (Nat.le_of_eq hg.symm)) hb); replace b3 := Aside0.mk (Kd.R_below (Kd.R_elderB (oR b3) b2 (Nat.le_of_eq hg.symm)) hb); replace a0 := bQ a0 hb; replace a1 := bQ a1 hb; replace a2 := bQ a2 hb; replace a5 := bQ a5 hb; replace HB := Aside0.mk (below_step bB hb); clear hb hbox hg; have b19 := x1.out; have b20 := x0.out; have b21 := x5.out; have b22 := x2.out; have b23 := k7.out; have b24 := k6.out; have b25 := k9.out; have b26 := k8.out; obtain ⟨ac7, ac8, ac9, ad0⟩ := cf2 a7))
 (try simp only [Act.put, List.setIfInBounds_toArray, List.set_cons_zero, List.set_cons_succ])
 go_cut [421] from 421 to 421 (fun ad1 wc => ∃ (kq : Nat) (h4 : Bool), ad1 = .bool h4 ∧ Aside0 (laws_FnBeamsEndOfAll.j3 kq a3 a4 l5 l6 j2 p4 p5 l7 a8 l8 j3 h4 a2_0 a2_1 d1 d2 = some r) ∧ Aside0 (kq ≤ b8) ∧ Aside0 (Kd.R k23 23 wc w.heap.size (fun k_ => k_ ≠ c4 ∧ k_ ≠ b9 ∧ k_ ≠ b7 ∧ k_ ≠ b2) p8 a8) ∧ Aside0 (wc.heap[c4]? = some (.cells #[.int .i64 a0_0, .int .i64 a0_1] 23 (0, 0))) ∧ Aside0 (wc.heap[g8]? = some (.cells #[.int .i64 a1_0, .int .i64 a1_1, .bool a1_2, .bool a1_3] 25 (0, 0))) ∧ Aside0 (wc.heap[b9]? = some (.cells #[.int .i64 a2_0, .int .i64 a2_1] 23 (0, 0))) ∧ Aside0 (wc.heap[b7]? = some (.cells #[.int .i64 d1, .int .i64 d2] 23 (0, 0))) ∧ Aside0 (wc.heap[b2]? = some (.cells #[.int .i64 e7, .int .i64 e8] 23 (0, 0))) ∧ Aside0 (Below w.heap.size w wc))
 case first => (
 as_aux_lemma => (
 have H := p7.out
 clear p7
 by_cases p9 : (j2 != U9) = true
 ·(
 rw [if_pos p9] at H
 exact absurd H (by cases b8 <;> simp [laws_FnBeamsEndOfAll.j3, HT_l.out])
 )
 rw [if_neg p9] at H
 obtain ⟨x6, b27, b28⟩ := nf p9
 clear p9
 (first | rw [x6] | (simp only [i64_w, i32_w]; rw [x6]) | skip)
 by_cases q0 : l5 = U7
 ·(
 rw [if_pos q0] at H
 obtain ⟨b29, b30⟩ := yE q0
 clear q0
 by_cases q1 : l6 = U8
 ·(
 rw [if_pos q1] at H
 obtain ⟨b31, b32⟩ := yE q1
 clear q1
 by_cases q2 : (A6 != V2) = true
 ·(
 rw [if_pos q2] at H
 exact absurd H (by cases b8 <;> simp [laws_FnBeamsEndOfAll.j3, HT_l.out])
 )
 rw [if_neg q2] at H
 obtain ⟨b33, b34, b35⟩ := nf q2
 clear q2
 by_cases q3 : p4 = V0
 ·(
 rw [if_pos q3] at H
 obtain ⟨b36, b37⟩ := yE q3
 clear q3
 by_cases q4 : p5 = V1
 ·(
 rw [if_pos q4] at H
 obtain ⟨b38, b39⟩ := yE q4
 clear q4
 by_cases q5 : (A7 != V4) = true
 ·(
 rw [if_pos q5] at H
 exact absurd H (by cases b8 <;> simp [laws_FnBeamsEndOfAll.j3, HT_l.out])
 )
 rw [if_neg q5] at H
 obtain ⟨b40, b41, b42⟩ := nf q5
 clear q5
 by_cases q6 : l7.toList = V3.toList
 ·(
 rw [if_pos q6] at H
 obtain ⟨b43, b44⟩ := yE q6
 clear q6
 by_cases q7 : (l8 != V5) = true
 ·(
 rw [if_pos q7] at H
 exact absurd H (by cases b8 <;> simp [laws_FnBeamsEndOfAll.j3, HT_l.out])
 )
 rw [if_neg q7] at H
 obtain ⟨b45, b46, b47⟩ := nf q7
 clear q7
 replace H := Option.bind_eq_some_iff.mp H; obtain ⟨ad2, F0, H⟩ := H; (try dsimp only at H); have ad3 := Aside0.mk F0; clear F0
 by_cases q8 : ad2 = true
 ·(
 subst q8
 rw [if_pos rfl] at H
 by_cases q9 : (j3 != V6) = true
 ·(
 rw [if_pos q9] at H
 exact absurd H (by cases b8 <;> simp [laws_FnBeamsEndOfAll.j3, HT_l.out])
 )
 rw [if_neg q9] at H
 obtain ⟨b48, b49, b50⟩ := nf q9
 clear q9
 by_cases r0 : (!(d1 == e7) || (!(d2 == e8))) = true
 ·(
 rw [if_pos r0] at H
 exact absurd H (by cases b8 <;> simp [laws_FnBeamsEndOfAll.j3, HT_l.out])
 )
 rw [if_neg r0] at H
 have b51 : (!(d1 == e7) || (!(d2 == e8))) = false := by simpa using r0
 clear r0
 by_cases r1 : (A6 != j2) = true
 ·(
 rw [if_pos r1] at H
 exact absurd H (by cases b8 <;> simp [laws_FnBeamsEndOfAll.j3, HT_l.out])
 )
 rw [if_neg r1] at H
 obtain ⟨b52, b53, b54⟩ := nf r1
 clear r1
 by_cases r2 : (A7 != j2) = true
 ·(
 rw [if_pos r2] at H
 exact absurd H (by cases b8 <;> simp [laws_FnBeamsEndOfAll.j3, HT_l.out])
 )
 rw [if_neg r2] at H
 obtain ⟨b55, b56, b57⟩ := nf r2
 clear r2
 replace H := Option.bind_eq_some_iff.mp H; obtain ⟨V8, F1, H⟩ := H; (try dsimp only at H); have ad4 := Aside0.mk F1; clear F1
 by_cases r3 : (j2 != V8) = true
 ·(
 rw [if_pos r3] at H
 exact absurd H (by cases b8 <;> simp [laws_FnBeamsEndOfAll.j3, HT_l.out])
 )
 rw [if_neg r3] at H
 obtain ⟨b58, b59, b60⟩ := nf r3
 clear r3
 replace H := Option.bind_eq_some_iff.mp H; obtain ⟨V9, F2, H⟩ := H; (try dsimp only at H); have ad5 := Aside0.mk F2; clear F2
 replace H := Option.bind_eq_some_iff.mp H; obtain ⟨X0, F3, H⟩ := H; (try dsimp only at H); have ad6 := Aside0.mk F3; clear F3
 have H' := Aside0.mk H
 clear H
 repeat (go_not_at_region 32; go_not_at_region 47; first | (with_reducible refine rgl ?_) | go_skip | go_guarded | go_step | go_upon)
 have n0_ : Aside0 (Kd.R k23 23 ((A8.setCell ⟨b2, 0, none⟩ (.int .i64 e7)).setCell ⟨b2, 1, none⟩ (.int .i64 e8)) w.heap.size (fun k_ => some k_ ≠ (V7 : Value).ownBlock ∧ k_ ≠ c4 ∧ k_ ≠ b9 ∧ k_ ≠ b7 ∧ k_ ≠ b2) p8 a8) := ⟨by (with_reducible repeat (first | apply Kd.R_alloc | apply Kd.R_drewN | apply Kd.R_drew)); exact Kd.R_mono (Kd.R_far (p := ⟨b2, 1, none⟩) (Kd.R_far (p := ⟨b2, 0, none⟩) (Kd.R_mono b1.out (fun k_ hk => (⟨hk, hk.2⟩ : _ ∧ k_ ≠ b2))) (fun _ hk => hk.2) (.int .i64 e7)) (fun _ hk => hk.2) (.int .i64 e8)) (fun _ hk => ⟨hk.1.1.1.2, ⟨hk.1.1.1.1.1.2, ⟨hk.1.1.1.1.2, ⟨hk.1.1.2, hk.1.2⟩⟩⟩⟩)⟩
 have n1_ : Aside0 (Kd.R k23 23 ((A8.setCell ⟨b2, 0, none⟩ (.int .i64 e7)).setCell ⟨b2, 1, none⟩ (.int .i64 e8)) w.heap.size (fun k_ => some k_ ≠ (p8 : Value).ownBlock ∧ k_ ≠ c4 ∧ k_ ≠ b9 ∧ k_ ≠ b7 ∧ k_ ≠ b2) V7 p6) := ⟨by (with_reducible repeat (first | apply Kd.R_alloc | apply Kd.R_drewN | apply Kd.R_drew)); exact Kd.R_mono (Kd.R_far (p := ⟨b2, 1, none⟩) (Kd.R_far (p := ⟨b2, 0, none⟩) (Kd.R_mono b3.out (fun k_ hk => (⟨hk, hk.2⟩ : _ ∧ k_ ≠ b2))) (fun _ hk => hk.2) (.int .i64 e7)) (fun _ hk => hk.2) (.int .i64 e8)) (fun _ hk => ⟨hk.1.1.1.1.1.2, ⟨hk.1.1.1.1.2, ⟨hk.1.1.1.2, ⟨hk.1.1.2, hk.1.2⟩⟩⟩⟩)⟩
 generalize hW_ : ((A8.setCell ⟨b2, 0, none⟩ (.int .i64 e7)).setCell ⟨b2, 1, none⟩ (.int .i64 e8)) = ad7 at n0_ n1_ ⊢
 have nB_ := bG HB hW_
 replace a0 := bF hW_ a0
 replace a1 := bF hW_ a1
 replace a2 := bF hW_ a2
 replace a5 := bF hW_ a5
 replace a7 := bFp hW_ (.cells #[.int .i64 e7, .int .i64 e8] 23 (0, 0)) a7
 try clear b1
 have b1 := n0_
 clear n0_
 try clear b3
 have b3 := n1_
 clear n1_ HB
 have HB := nB_
 clear nB_ hW_
 replace b1 := Aside0.mk (Kd.R_drew b1.out)
 replace b3 := Aside0.mk (Kd.R_drew b3.out)
 replace a0 := bD1 a0
 replace a1 := bD1 a1
 replace a2 := bD1 a2
 replace a5 := bD1 a5
 replace a7 := bD1 a7
 replace HB := Aside0.mk (below_drew1 HB.out)
 obtain ⟨Y7, Y8, F4⟩ := Kd.R_slice b1.out
 (first | subst F4 | (injection F4 with f1_ f2_ f3_; have f4_ := f1_.symm; have f5_ := f3_.symm; clear f1_ f2_ f3_; subst f4_; subst f5_))
 obtain ⟨Y9, Z0, F5⟩ := Kd.R_slice b3.out
 (first | subst F5 | (injection F5 with f1_ f2_ f3_; have f4_ := f1_.symm; have f5_ := f3_.symm; clear f1_ f2_ f3_; subst f4_; subst f5_))
 refine st_ 82 laws_FnBeamsEndOfAll.pl0 (S := fun w' => w'.cell? ⟨b7, 0, none⟩ = some (.int .i64 d1) ∧ w'.cell? ⟨b7, 1, none⟩ = some (.int .i64 d2) ∧ w'.cell? ⟨b2, 0, none⟩ = some (.int .i64 e7) ∧ w'.cell? ⟨b2, 1, none⟩ = some (.int .i64 e8) ∧ w'.cell? ⟨b9, 0, none⟩ = some (.int .i64 a2_0) ∧ w'.cell? ⟨b9, 1, none⟩ = some (.int .i64 a2_1)) (ds := []) laws_FnBeamsEndOfAll.tab32 laws_FnBeamsEndOfAll.bits32 cS (fun hHeld HT_ HW_ => ?_)
 generalize ad7.drew = bo5 at b1 b3 a0 a1 a2 a5 a7 HB hHeld ⊢
 (try clear b09); (try clear b10); (try clear b11); (try clear b12); (try clear a99); (try clear aa0); (try clear aa1); (try clear aa2); (try clear aa3); (try clear aa4); (try clear aa5); (try clear aa6); (try clear aa7); (try clear aa8); (try clear aa9); (try clear ab0); (try clear ab1); (try clear ab2); (try clear ab3); (try clear ab4); (try clear ab5); (try clear ab6); (try clear ab7); (try clear ab8); (try clear ab9); (try clear ac0); (try clear ac1); (try clear ac2); (try clear ac3); (try clear ac4); (try clear ac5); (try clear ac6); (try clear ac7); (try clear ac8); (try clear ac9); (try clear ad0); (try clear b13); (try clear b14); (try clear b15); (try clear b16); (try clear b17); (try clear b18); (try clear b19); (try clear b20); (try clear b21); (try clear b22); (try clear b23); (try clear b24); (try clear b25); (try clear b26)
 iterate 46 refine rA HT_ ?_
 refine pO HT_ fun K hK => ?_
 refine goes_ Tryd.func24 kr rfl #[.slice Y7 a8.length Y8, .slice Y9 p6.length Z0] (by rfl) rfl rfl sM ?_
 with_reducible refine (laws_jTables.calls b8 _ _ a8 _ _ p6 true _ ?side1 ?side2 ?side3 ?side4 ad3.out).mono ?_
 (case side1 => repeat (first | exact (Kd.R_reads' b1.out).2.2 | (with_reducible refine Kd.C_alloc ?_ _) | (with_reducible refine Kd.C_drewN ?_ _) | (with_reducible refine Kd.C_drew ?_)))
 (case side2 => exact (Kd.R_reads' b1.out).2.1)
 (case side3 => repeat (first | exact (Kd.R_reads' b3.out).2.2 | (with_reducible refine Kd.C_alloc ?_ _) | (with_reducible refine Kd.C_drewN ?_ _) | (with_reducible refine Kd.C_drew ?_)))
 (case side4 => exact (Kd.R_reads' b3.out).2.1)
 rintro e w' ⟨rfl, ⟨nd, rfl⟩⟩
 refine ⟨_, rfl, ?_⟩
 refine hK.out _ _ cS (fun hHeld => ?_)
 clear hK K
 refine nP ?_
 iterate 25 (first | refine rA HT_ ?_ | refine rT HT_ HW_ hHeld ?_)
 refine pO HT_ fun K hK => ?_
 refine goes_ Tryd.func25 kr rfl #[.agg #[.int .i64 a2_0, .int .i64 a2_1]] (by rfl) rfl rfl sM ?_
 with_reducible refine (impl_IsTable.calls a2_0 a2_1 V8 _ ad4.out).mono ?_
 rintro e bo6 ⟨rfl, hb⟩
 refine ⟨_, rfl, ?_⟩
 replace b1 := Aside0.mk (Kd.R_below (oR b1) hb)
 replace b3 := Aside0.mk (Kd.R_below (oR b3) hb)
 replace a0 := bQ a0 hb
 replace a1 := bQ a1 hb
 replace a2 := bQ a2 hb
 replace a5 := bQ a5 hb
 replace a7 := bQ a7 hb
 replace HB := Aside0.mk (below_step bB hb)
 try clear hb
 refine hK.out _ _ cS (fun hHeld => ?_)
 clear hK K
 refine nP ?_
 iterate 5 (first | refine rA HT_ ?_ | refine rT HT_ HW_ hHeld ?_)
 refine pO HT_ fun K hK => ?_
 refine goes_ Tryd.func25 kr rfl #[.agg #[.int .i64 a2_0, .int .i64 a2_1]] (by rfl) rfl rfl sM ?_
 with_reducible refine (impl_IsTable.calls a2_0 a2_1 V9 _ ad5.out).mono ?_
 rintro e bo7 ⟨rfl, hb⟩
 refine ⟨_, rfl, ?_⟩
 replace b1 := Aside0.mk (Kd.R_below (oR b1) hb)
 replace b3 := Aside0.mk (Kd.R_below (oR b3) hb)
 replace a0 := bQ a0 hb
 replace a1 := bQ a1 hb
 replace a2 := bQ a2 hb
 replace a5 := bQ a5 hb
 replace a7 := bQ a7 hb
 replace HB := Aside0.mk (below_step bB hb)
 try clear hb
 refine hK.out _ _ cS (fun hHeld => ?_)
 clear hK K
 refine nP ?_
 refine pO HT_ fun K hK => ?_
 refine goes_ Tryd.func26 kr rfl #[.agg #[.int .i64 a2_0, .int .i64 a2_1]] (by rfl) rfl rfl sM ?_
 with_reducible refine (spec_IsTable.calls a2_0 a2_1 X0 _ ad6.out).mono ?_
 rintro e bo8 ⟨rfl, hb⟩
 refine ⟨_, rfl, ?_⟩
 replace b1 := Aside0.mk (Kd.R_below (oR b1) hb)
 replace b3 := Aside0.mk (Kd.R_below (oR b3) hb)
 replace a0 := bQ a0 hb
 replace a1 := bQ a1 hb
 replace a2 := bQ a2 hb
 replace a5 := bQ a5 hb
 replace a7 := bQ a7 hb
 replace HB := Aside0.mk (below_step bB hb)
 try clear hb
 refine hK.out _ _ cS (fun hHeld => ?_)
 clear hK K
 refine nP ?_
 iterate 2 refine rA HT_ ?_
 refine pD HT_ ?_
 repeat (go_not_at_region 32; go_not_at_region 47; first | (with_reducible refine rgl ?_) | go_skip | go_guarded | go_step | go_upon)
 (try rw [dSet])
 go_meet
 case rel => exact ⟨_, ((V9 != X0)), sR, H', ⟨laws_FnBeamsEndOfAll.jx⟩, ⟨by (with_reducible repeat (first | apply Kd.R_alloc | apply Kd.R_drewN | apply Kd.R_drew)); exact Kd.R_mono b1.out (fun _ hk => ⟨hk.2.1, ⟨hk.2.2.1, ⟨hk.2.2.2.1, hk.2.2.2.2⟩⟩⟩)⟩, (bA a0), (bA a1), (bA a2), (bA a5), (bA a7), ⟨bB⟩⟩
 )
 replace q8 := Bool.eq_false_iff.mpr q8
 subst q8
 rw [if_neg nft] at H
 exact absurd H (by cases b8 <;> simp [laws_FnBeamsEndOfAll.j3, HT_l.out])
 )
 rw [if_neg q6] at H
 exact absurd H (by cases b8 <;> simp [laws_FnBeamsEndOfAll.j3, HT_l.out])
 )
 rw [if_neg q4] at H
 exact absurd H (by cases b8 <;> simp [laws_FnBeamsEndOfAll.j3, HT_l.out])
 )
 rw [if_neg q3] at H
 exact absurd H (by cases b8 <;> simp [laws_FnBeamsEndOfAll.j3, HT_l.out])
 )
 rw [if_neg q1] at H
 exact absurd H (by cases b8 <;> simp [laws_FnBeamsEndOfAll.j3, HT_l.out])
 )
 rw [if_neg q0] at H
 exact absurd H (by cases b8 <;> simp [laws_FnBeamsEndOfAll.j3, HT_l.out])
 )
 )
 clear p7
 obtain ⟨kq, h4, rfl, HA, HJ194, a9, a0, a1, a2, a5, a7, HB⟩ := hcut
 rename_i K1_ aK1_ K_ aK_
 exact aK_ _ _ (hR_ k a0_0 a0_1 a1_0 a1_1 a1_2 a1_3 a2_0 a2_1 a3 a4 r w b5 j1 S5 S6 h3 g5 A0 S9 T0 T1 c3 A1 T4 T5 d4 A2 T8 T9 c4 g8 b9 u129 u130 u131 u132 u133 u134 u135 u136 u137 u138 u139 u140 u141 u142 u143 u144 u145 u146 u147 u148 u149 u150 u151 u152 u153 u154 u155 u156 u157 u158 u159 u160 u161 u162 u163 u164 u165 u166 u167 u168 u169 u170 u171 u172 u173 u174 u175 u176 u177 u178 u179 u180 u181 u182 u183 u184 u185 b0 u10 u29 u30 u31 u32 u33 u34 u187 u188 u189 u190 u191 u192 u193 u194 u195 u196 u197 u198 u199 u200 u201 u202 u203 u204 u205 u206 u207 u208 u209 u210 u211 u212 u213 u214 u215 u216 u217 u218 u219 u220 u221 u222 u223 u224 u225 u226 u227 u228 u229 u230 u231 u232 u233 u234 u235 u236 u237 u238 u239 u240 u241 u242 u243 u244 u245 u246 u247 u248 u249 u250 u251 u252 u253 u254 u255 u256 u257 u258 u259 u260 u261 u262 u263 u264 u265 u266 u267 u268 u269 u270 u271 u272 u273 u274 u275 u276 u277 u278 u279 u280 u281 u282 u283 u284 u285 b8 l5 l6 j2 U7 U8 U9 p4 p5 A6 V0 V1 V2 l7 A7 V3 V4 a8 l8 p6 V5 d1 d2 j3 e7 e8 V6 p8 V7 b7 b2 wc u340 u341 u342 u343 u344 u345 u346 u347 u348 u349 u350 u351 u352 u353 u354 u355 u356 u357 u358 u359 u360 u361 u362 u363 u364 u365 u366 u367 u368 u369 u370 u371 u372 u373 u374 u375 u376 u377 u378 u379 u380 u381 u382 u383 u384 u385 u386 u387 u388 u389 u390 u391 u392 u393 u394 u395 u396 u397 u398 u399 u400 u401 u402 u403 u404 u405 u406 u407 u408 u409 u410 u411 u412 u413 u414 u415 u416 u417 u418 u419 u420 kq h4 HM HT_l A10 A11 A12 A13 A14 A15 A16 A17 X5 X6 X7 X8 c9 d0 X9 Y0 c1 c2 d7 d8 HJ17 HJ60 a89 a90 a91 a92 a93 a94 a95 a96 a97 a98 bm0 bm1 k1 k2 k3 k4 h5 h6 bm2 bm3 x0 x1 x2 x5 k6 k7 k8 k9 HA HJ194 a9 a0 a1 a2 a5 a7 HB K1_ aK1_)
 )
 )
end Go.Proofs.YtlmiaadpnbehgaaDoor.PFnBeamsEndOfAll
